/- YtpgilgnkiceggaaGreatDoorWd: part of the proof that laws hold, for every input that the row speaks of (no condition of ours). -/
import Derived.Test.YtpgilgnkiceggaaGreatDoorWa
import Derived.Test.YtpgilgnkiceggaaGreatDoorWb
import Derived.Test.YtpgilgnkiceggaaGreatDoorEc
import Derived.Test.YtpgilgnkiceggaaGreatDoorWc
import Derived.ProofKit
import Derived.OpenShut
import Derived.Below
import Derived.ChangeSame
import Derived.Deep.DeepHandedRow
import Derived.Deep.DeepWitnessRowRef
import Derived.Lib.LaidTab
import Derived.Stop.LaidErr
set_option linter.unusedVariables false
set_option linter.unusedSimpArgs false
section
namespace Go.Proofs.W
open Go Go.Eng Go.RowKit Go.WideShapes Go.ChangeShapes
set_option linter.unusedSimpArgs false
set_option maxRecDepth 100000
/-- a slice of bytes that came in -/
def InBytes (W:World) (v:Value):Prop :=
 v = .slice none 0 0∨∃ b off len cap,∃ zs:List Int,v = .slice (some ⟨b,off,none⟩) len cap∧len≤cap∧len≤zs.length∧(∀ i,i < zs.length→W.cell? ⟨b,off + i,none⟩=some (.int .u8 (zs.getD i 0)))∧∀ n ∈ zs,0≤n∧n < 256
theorem inBytes_rdd {W:World} {v:Value} (h:InBytes W v) (S:Nat→Nat→Prop) (hS:∀ b o,(∃ x,W.cell? ⟨b,o,none⟩=some x∧x.oneCell'=true)→S b o):∃ bs:List Nat,(∀ b ∈ bs,b < 256)∧RdD W S (.sl (byteRows bs)) v:=by
 rcases h with rfl | ⟨b,off,len,cap,zs,rfl,h1,h2,h3,h4⟩
 ·exact ⟨[],by simp,.nil⟩
 ·have hz:∀ i,i < zs.length→0≤zs.getD i 0∧zs.getD i 0 < 256:=fun i hi=>by
   have:zs.getD i 0=zs[i]:=by simp [List.getD_eq_getElem?_getD,hi]
   rw [this];exact h4 _ (List.getElem_mem hi)
  refine ⟨(List.range len).map fun i=>(zs.getD i 0).toNat,?_,rdd_bytes h1 fun k hk=>?_⟩
  ·intro x hx
   simp only [List.mem_map,List.mem_range] at hx
   obtain ⟨i,hi,rfl⟩:=hx
   have:=hz i (by omega);omega
  ·have e:((zs.getD k 0).toNat:Int)=zs.getD k 0:=Int.toNat_of_nonneg (hz k (by omega)).1
   have hc:=h3 k (by omega)
   rw [← e] at hc
   exact ⟨hS _ _ ⟨_,hc,rfl⟩,hc⟩
/-- the row's last step: old blocks are as they were -/
theorem post_below {H:Type} {enc:TypeId × Value→H} {P:Program} {f:Func} {s:ChangeSpec} {apart fresh handsOn again:Bool} {W W':World} {args:Array Value} {v:Value} {ds gs:List (DataW H)} {before pa pv:List MemPlace}
  (hW:DataW.Whole enc P f.params.toList s.vars apart W args.toList ds gs before)
  (hres:∀ (b:Nat) (sp:Nat→Bool) (hd:Bool),DataW.TrodAll enc P W' b sp hd f.resultTypes.toList (v.resultList f.resultTypes.size) (s.fn H (ds++gs)).results [])
  (hargs:∀ sp:Nat→Bool,(∀ p ∈ before,sp p.block=true)→DataW.TrodAll enc P W' 0 sp true f.params.toList args.toList (s.fn H (ds++gs)).args pa)
  (hvars:∀ sp:Nat→Bool,(∀ p ∈ before,sp p.block=true)→DataW.TrodVars enc P W' sp s.vars (s.fn H (ds++gs)).vars pv)
  (hps:before=pa++pv) (hb:Below W.heap.size W W')
  (hok:∀ (j:Nat) (t:TypeId) (r:Value),f.resultTypes[j]? = some t→(v.resultList f.resultTypes.size)[j]? = some r→Value.okWide P W' .any 0 t r) :
  s.post enc P f apart fresh handsOn again W args v W':=by
 have hlt:∀ p ∈ before,p.block < W.heap.size:=fun p hp=>hW.lt p hp
 have hold:∀ p ∈ before,(fun b=>decide (b < W.heap.size)) p.block=true:=fun p hp=>by simpa using hlt p hp
 refine ⟨ds,gs,before,[],pa,pv,hW,hres _ _ _,hargs _ hold,hvars _ hold,World.keptBut_mono (fun p hp=>⟨hp,?_⟩) (hb.frame (· ∈ before)),fun _=>?_⟩
 ·rw [hps,List.mem_append] at hp
  exact Or.inr hp
 ·obtain ⟨_,_,_,_,_,hz,hn⟩:=hW
  refine ⟨hok,_,_,([]++pa)++pv,⟨[]++pa,pv,trodAll_append (hargs _ (fun _ _=>rfl)) (hres _ _ _),hvars _ (fun _ _=>rfl),rfl,?_,?_⟩,?_⟩
  ·intro b off hp
   have hin:MemPlace.cell b off ∈ before:=by rw [hps];simpa using hp
   rw [hb.frozen (hlt _ hin)]
   exact hz b off hin
  ·intro ha
   have:=hn ha
   rw [hps] at this
   simpa using this
  ·intro p hp _
   rw [hps]
   simpa using hp
/-- one slice of bytes,and what it reads as behind the call -/
theorem open_arg {H:Type} {enc:TypeId × Value→H} {W:World} {base:Nat} {v:Value} {d:DataW H} {p:List MemPlace} (hval:Value.okWide Tryz.prog W .any base 22 v) (h:DataW.Trod enc Tryz.prog W 0 (fun _=>true) true 22 v d p) :
  InBytes W v∧∀ W':World,Below W.heap.size W W'→∀ sp:Nat→Bool,(∀ x ∈ p,sp x.block=true)→DataW.Trod enc Tryz.prog W' 0 sp true 22 v d p:=by
 obtain ⟨a1,len,cap,rfl⟩:=okWide_slice Tryz.underlying22 hval
 have hspot:∀ a,a1=some a→a.spot=none:=fun a e=>by
  subst e
  simp only [Value.okWide,Tryz.underlying22,Cell.okWide,Cell.ok] at hval
  exact hval.2.2.2.1
 obtain ⟨fuel,hf⟩:=h
 rcases open_ints Tryz.underlying22 Tryz.underlying5 (by kernel_rfl) hf with ⟨hcs,hx⟩ | ⟨a,len',cap',zs,hcs,hba,hl,hm,hz,hx,hcell,hwz⟩
 ·simp [Value.cells] at hcs
  obtain ⟨rfl,rfl,rfl⟩:=hcs
  simp only [Prod.mk.injEq] at hx
  obtain ⟨rfl,rfl⟩:=hx
  refine ⟨.inl rfl,fun W' _ sp _=>⟨1,?_⟩⟩
  simp [DataW.trod,Tryz.underlying22,Value.cells]
 ·simp [Value.cells] at hcs
  obtain ⟨rfl,rfl,rfl⟩:=hcs
  simp only [Prod.mk.injEq] at hx
  obtain ⟨rfl,rfl⟩:=hx
  simp only [if_true] at hz
  obtain ⟨b,off,spot⟩:=a
  obtain rfl:spot=none:=hspot _ rfl
  have hcell':∀ i,i < zs.length→W.cell? ⟨b,off + i,none⟩=some (.int .u8 (zs.getD i 0)):=fun i hi=>by
   have:=hcell i hi
   rwa [add_none] at this
  refine ⟨.inr ⟨b,off,len,cap,zs,rfl,hl,by omega,hcell',fun n hn=>?_⟩,fun W' hB sp hsp=>⟨2,?_⟩⟩
  ·have:=bounds_u8 (hwz n hn)
   omega
  ·have hpos:0 < zs.length→sp b=true:=fun h0=>by
    have:=hsp (.cell b off) (by simp only [MemPlace.row,List.mem_map,List.mem_range];exact ⟨0,h0,rfl⟩)
    exact this
   refine shut_ints (a:=⟨b,off,none⟩) 0 Tryz.underlying22 Tryz.underlying5 (by kernel_rfl) hba hl hm ?_ (fun i hi=>?_) hwz
   ·by_cases h0:0 < zs.length
    ·rw [if_pos (hpos h0)];exact hz
    ·have:zs.length=0:=by omega
     split<;>omega
   ·rw [add_none]
    exact (hB.cell (p:=⟨b,off + i,none⟩) (World.block_lt_of_cell? W ⟨b,off + i,none⟩ (hcell' i hi))).trans (hcell' i hi)
end Go.Proofs.W
end
section
namespace Go.Proofs.W
open Go Go.Eng Go.RowKit Go.WideShapes Go.ChangeShapes
set_option linter.unusedSimpArgs false
set_option maxRecDepth 100000
theorem var_below' {P:Program} {w w':World} {n:String} {g:Nat} {cs:Array Value} (h:w.var? P n=some cs) (hg:P.globalNamed n=some g) (hb:Below w.heap.size w w'):w'.var? P n=some cs:=by
 have hlt:g < w.heap.size:=by
  unfold World.var? at h
  rw [hg] at h
  simp only [Option.bind_some] at h
  rcases Nat.lt_or_ge g w.heap.size with h' | h'
  ·exact h'
  ·simp [Array.getElem?_eq_none h'] at h
 unfold World.var? at h ⊢
 rw [hg] at h ⊢
 simp only [Option.bind_some] at h ⊢
 rw [hb.block g hlt]
 exact h
end Go.Proofs.W
end
section
namespace Go.Proofs.W
open Go Go.Eng Go.RowKit
set_option linter.unusedSimpArgs false
set_option maxRecDepth 100000
def dRibOkI (pb:Addr):DFn:={ g:=gRibOk,inv:=WP pb }
attribute [go_sem] dRibOkI
set_option maxHeartbeats 4000000 in
theorem iRibOk_ok (pb:Addr):Fine Tryz.prog 18 (dRibOkI pb).con:=by
 refine fine_det (T:=TT) Tryz.func18 rfl Tryz.ntmps18 (by rw [Tryz.results18]) rfl rfl tt (gs_nil) (ds_cons iIsH_ok (ds_cons (iRtOk_ok pb) (ds_cons iRgCmp_ok ds_nil) (wp_inh pb))) ?_
 intro args c r h hc
 simp only [dRibOkI,gRibOk] at h
 split at h
 rotate_left
 ·cases h
 split at h
 rotate_left
 ·cases h
 rename_i h0 up t els _ l hgo
 obtain rfl:=gotsL_eq hgo
 obtain ⟨rfl,rfl⟩:=Prod.mk.inj (Option.some.inj h)
 refine ⟨by simp,fun k E hE Q hQ=>?_⟩
 obtain ⟨hll,hlen⟩:=hc
 refine Aw_st hE [1] [1] fun K hK=>?_
 simp only [go_sem,seval]
 refine hK _ ?_;clear hK K
 refine Aw_sq fun B1 hB1 hR1 hX1=>?_
 refine Aw_st hE [1,14] [1] fun K hK=>?_
 simp only [go_sem,seval]
 refine ⟨fun hg3=>?_,fun hg3=>?_⟩
 ·have hg3:isH h0=false:=by simpa using hg3
  refine hK _ (Aw_yes rfl ?_)
  refine Aw_st hE [2] [] fun K hK=>?_
  simp only [go_sem,seval]
  refine hK _ (Aw_ret (hR1 _ (hQ _ ?_)))
  simp only [go_sem,seval,ribOk,hg3,Bool.false_and]
 have hg3:isH h0=true:=by simpa using hg3
 refine hK _ (Aw_cond rfl (fun hc4=>?_) (fun hc4=>?_))
 ·refine Aw_st hE [2] [] fun K hK=>?_
  simp only [go_sem,seval]
  refine hK _ (Aw_ret (hR1 _ (hQ _ ?_)))
  simp only [decide_eq_true_eq] at hc4
  simp only [go_sem,seval,ribOk,hg3,Bool.true_and,show decide (l.length≤6)=false from decide_eq_false (by omega),Bool.false_and]
 simp only [decide_eq_false_iff_not] at hc4
 refine Aw_skip (hB1 _ ?_)
 refine Aw_sq fun B5 hB5 hR5 hX5=>?_
 refine Aw_st hE [1,16,17,18] [1] fun K hK=>?_
 simp only [go_sem,seval]
 refine hK _ ?_;clear hK K
 refine Aw_bk fun B6 hN6 hE6 hR6 hX6=>?_
 refine Aw_lp (fun i:Nat=>⟨65,[(1,.loc 1 0),(16,.sl t (grows l)),(17,iv l.length),(18,iv i)],[(1,[iv h0,bv up,.sl t (grows l)])],k⟩) (fun i=>i≤l.length∧allG h0 up none l=allG h0 up (prevG l i) (l.drop i)∧∀ j,j < i→∀ g,l[j]? = some g→rngOk g.r.f g.r.b=true) (fun i=>l.length - i) 0 (Le.refl _) ⟨by omega,rfl,fun j hj=>by omega⟩ fun i hi B7 hN7 hR7 hX7=>?_
 obtain ⟨hi1,hi2,hi3⟩:=hi
 refine Aw_st hE [1,16,17,18,19] [1] fun K hK=>?_
 simp only [go_sem,seval]
 refine hK _ ?_;clear hK K
 refine Aw_sq fun B8 hB8 hR8 hX8=>?_
 refine Aw_cond rfl (fun hc9=>?_) (fun hc9=>?_)
 rotate_left
 ·refine Aw_exit (hX8 _ _ (hX7 _ _ (hE6 _ (hB5 _ ?_))))
  simp only [decide_eq_false_iff_not] at hc9
  have hal:allG h0 up none l=true:=by rw [hi2,List.drop_eq_nil_of_le (by omega)];rfl
  refine Aw_st hE [2] [] fun K hK=>?_
  simp only [go_sem,seval]
  refine hK _ (Aw_ret (hQ _ ?_))
  simp only [go_sem,seval,ribOk,hal,hg3,show decide (l.length≤6)=true from decide_eq_true (by omega),Bool.and_self]
 simp only [decide_eq_true_eq] at hc9
 have hil:i < l.length:=by omega
 have hget:=grows_get l i hil
 have hln:=hlen _ (List.getElem_mem hil)
 have hstop:=fun h=>ribOk_stop hil hi2 h
 have hst:=hi2.trans (allG_drop hil)
 have hnx:∀ (hr:rngOk l[i].r.f l[i].r.b=true),∀ j,j < i + 1→∀ g,l[j]? = some g→rngOk g.r.f g.r.b=true:=fun hr j hj g hg=>by
  by_cases hji:j=i
  ·subst hji
   rw [List.getElem?_eq_getElem hil] at hg
   obtain rfl:=Option.some.inj hg
   exact hr
  ·exact hi3 j (by omega) g hg
 generalize l[i]=x at hget hln hstop hst hnx
 obtain ⟨⟨rf,rb,p,rk,m⟩,old⟩:=x
 simp only at hln hnx
 refine Aw_skip (hB8 _ ?_)
 refine Aw_sq fun B10 hB10 hR10 hX10=>?_
 refine Aw_bk fun B11 hN11 hE11 hR11 hX11=>?_
 refine Aw_st hE [1,3,4,16,17,18] [1,4] fun K hK=>?_
 simp only [go_sem,seval,hget]
 repeat refine ⟨by first|omega|(and_intros<;>first|omega|exact rows_row _|decide|(simp<;>omega))|fail,?_⟩
 refine hK _ ?_;clear hK K
 refine Aw_sq fun B12 hB12 hR12 hX12=>?_
 have hokR:okR ⟨rf,rb,p,rk,m⟩=rtOk rf rb p rk m:=rfl
 cases h1:rtOk rf rb p rk m with
 | false =>
  have hf:=hstop (by simp only [gotOk,hokR,h1,Bool.false_and])
  refine Aw_se hE [0,1,2,3,4,5,6,7,8,9,10,11,12,13,14,15,16,17,18,19,20,21,22,23] [0,1,3,7,15,31,63,127,255,511,31,1055,4095,8191,16383,32767,65535,131071,262143,524287,1048575,2097151,4194303,8388607] [1,3,4,16,17,18,46] [1,4] (by kernel_rfl) fun K hK=>?_
  refine daopsE_cut 6 fun K1 hK1=>?_
  simp only [go_sem,seval,h1]
  repeat refine ⟨by first|omega|(and_intros<;>first|omega|exact rows_row _|decide|(simp<;>omega))|fail,?_⟩
  refine hK1 _ ?_
  clear hK1
  refine daopsE_cut 6 fun K1 hK1=>?_
  simp only [go_sem,seval,h1]
  repeat refine ⟨by first|omega|(and_intros<;>first|omega|exact rows_row _|decide|(simp<;>omega))|fail,?_⟩
  refine hK1 _ ?_
  clear hK1
  refine daopsE_cut 6 fun K1 hK1=>?_
  simp only [go_sem,seval,h1]
  repeat refine ⟨by first|omega|(and_intros<;>first|omega|exact rows_row _|decide|(simp<;>omega))|fail,?_⟩
  refine hK1 _ ?_
  clear hK1
  simp only [go_sem,seval,h1]
  repeat refine ⟨by first|omega|(and_intros<;>first|omega|exact rows_row _|decide|(simp<;>omega))|fail,?_⟩
  refine hK _ (Aw_yes rfl ?_)
  refine Aw_st hE [2] [] fun K hK=>?_
  simp only [go_sem,seval]
  refine hK _ (Aw_ret (hR12 _ (hR11 _ (hR10 _ (hR7 _ (hR6 _ (hR5 _ (hQ _ ?_))))))))
  simp only [go_sem,seval,hf]
 | true =>
 have hrr:=rtOk_r h1
 have hnx:=hnx hrr
 obtain ⟨p0,p',rfl⟩:∃ p0 p',p=p0::p':=by
  have:=(okR_parts (hokR.trans h1)).2.1
  cases p with
  | nil=>simp at this
  | cons a b=>exact ⟨a,b,rfl⟩
 obtain ⟨hln1,hln2⟩:=hln
 have hpl:p'.length≤1000:=by simp at hln1;omega
 have hp0:(rows (p0::p'))[0]? = some [.v (.int .i64 p0)]:=rfl
 by_cases h2:p0=h0
 rotate_left
 ·have hf:=hstop (by simp [gotOk,h2])
  have h2d:decide (p0=h0)=false:=decide_eq_false h2
  refine Aw_se hE [0,1,2,3,4,5,6,7,8,9,10,11,12,13,14,15,16,17,18,19,20,21,22,23] [0,1,3,7,15,31,63,127,255,511,31,1055,4095,8191,16383,32767,65535,131071,262143,524287,1048575,2097151,4194303,8388607] [1,3,4,16,17,18,46] [1,4] (by kernel_rfl) fun K hK=>?_
  refine daopsE_cut 6 fun K1 hK1=>?_
  simp only [go_sem,seval,h1,hp0,h2d]
  repeat refine ⟨by first|omega|(and_intros<;>first|omega|exact rows_row _|decide|(simp<;>omega))|fail,?_⟩
  refine hK1 _ ?_
  clear hK1
  refine daopsE_cut 6 fun K1 hK1=>?_
  simp only [go_sem,seval,h1,hp0,h2d]
  repeat refine ⟨by first|omega|(and_intros<;>first|omega|exact rows_row _|decide|(simp<;>omega))|fail,?_⟩
  refine hK1 _ ?_
  clear hK1
  refine daopsE_cut 6 fun K1 hK1=>?_
  simp only [go_sem,seval,h1,hp0,h2d]
  repeat refine ⟨by first|omega|(and_intros<;>first|omega|exact rows_row _|decide|(simp<;>omega))|fail,?_⟩
  refine hK1 _ ?_
  clear hK1
  simp only [go_sem,seval,h1,hp0,h2d]
  repeat refine ⟨by first|omega|(and_intros<;>first|omega|exact rows_row _|decide|(simp<;>omega))|fail,?_⟩
  refine hK _ (Aw_yes rfl ?_)
  refine Aw_st hE [2] [] fun K hK=>?_
  simp only [go_sem,seval]
  refine hK _ (Aw_ret (hR12 _ (hR11 _ (hR10 _ (hR7 _ (hR6 _ (hR5 _ (hQ _ ?_))))))))
  simp only [go_sem,seval,hf]
 have h2d:decide (p0=h0)=true:=decide_eq_true h2
 cases h3:(up || old) with
 | false =>
  have hf:=hstop (by simp only [gotOk,h3,Bool.false_and,Bool.and_false])
  simp only [Bool.or_eq_false_iff] at h3
  refine Aw_se hE [0,1,2,3,4,5,6,7,8,9,10,11,12,13,14,15,16,17,18,19,20,21,22,23] [0,1,3,7,15,31,63,127,255,511,31,1055,4095,8191,16383,32767,65535,131071,262143,524287,1048575,2097151,4194303,8388607] [1,3,4,16,17,18,46] [1,4] (by kernel_rfl) fun K hK=>?_
  refine daopsE_cut 6 fun K1 hK1=>?_
  simp only [go_sem,seval,h1,hp0,h2d,h3.1,h3.2]
  repeat refine ⟨by first|omega|(and_intros<;>first|omega|exact rows_row _|decide|(simp<;>omega))|fail,?_⟩
  refine hK1 _ ?_
  clear hK1
  refine daopsE_cut 6 fun K1 hK1=>?_
  simp only [go_sem,seval,h1,hp0,h2d,h3.1,h3.2]
  repeat refine ⟨by first|omega|(and_intros<;>first|omega|exact rows_row _|decide|(simp<;>omega))|fail,?_⟩
  refine hK1 _ ?_
  clear hK1
  refine daopsE_cut 6 fun K1 hK1=>?_
  simp only [go_sem,seval,h1,hp0,h2d,h3.1,h3.2]
  repeat refine ⟨by first|omega|(and_intros<;>first|omega|exact rows_row _|decide|(simp<;>omega))|fail,?_⟩
  refine hK1 _ ?_
  clear hK1
  simp only [go_sem,seval,h1,hp0,h2d,h3.1,h3.2]
  repeat refine ⟨by first|omega|(and_intros<;>first|omega|exact rows_row _|decide|(simp<;>omega))|fail,?_⟩
  refine hK _ (Aw_yes rfl ?_)
  refine Aw_st hE [2] [] fun K hK=>?_
  simp only [go_sem,seval]
  refine hK _ (Aw_ret (hR12 _ (hR11 _ (hR10 _ (hR7 _ (hR6 _ (hR5 _ (hQ _ ?_))))))))
  simp only [go_sem,seval,hf]
 | true =>
 have e1:okR ⟨rf,rb,h0::p',rk,m⟩=true:=by rw [← h2];exact hokR.trans h1
 have hgo2:gotOk h0 up (prevG l i) ⟨⟨rf,rb,p0::p',rk,m⟩,old⟩=(match prevG l i with | none=>true | some q=>decide (rCmp q.r.f q.r.b rf rb < 0)):=by
  simp only [gotOk,e1,h3,h2,List.head?_cons,Bool.true_and,decide_true]
  all_goals (cases prevG l i<;>rfl)
 rw [hgo2] at hst hstop
 have hupo:up=true∨(up=false∧old=true):=by
  cases up<;>simp_all
 rcases hupo with hu | ⟨hu,ho⟩
 ·subst hu
  refine Aw_se hE [0,1,2,3,4,5,6,7,8,9,10,11,12,13,14,15,16,17,18,19,20,21,22,23] [0,1,3,7,15,31,63,127,255,511,31,1055,4095,8191,16383,32767,65535,131071,262143,524287,1048575,2097151,4194303,8388607] [1,3,4,16,17,18,46] [1,4] (by kernel_rfl) fun K hK=>?_
  refine daopsE_cut 6 fun K1 hK1=>?_
  simp only [go_sem,seval,h1,hp0,h2d]
  repeat refine ⟨by first|omega|(and_intros<;>first|omega|exact rows_row _|decide|(simp<;>omega))|fail,?_⟩
  refine hK1 _ ?_
  clear hK1
  refine daopsE_cut 6 fun K1 hK1=>?_
  simp only [go_sem,seval,h1,hp0,h2d]
  repeat refine ⟨by first|omega|(and_intros<;>first|omega|exact rows_row _|decide|(simp<;>omega))|fail,?_⟩
  refine hK1 _ ?_
  clear hK1
  refine daopsE_cut 6 fun K1 hK1=>?_
  simp only [go_sem,seval,h1,hp0,h2d]
  repeat refine ⟨by first|omega|(and_intros<;>first|omega|exact rows_row _|decide|(simp<;>omega))|fail,?_⟩
  refine hK1 _ ?_
  clear hK1
  simp only [go_sem,seval,h1,hp0,h2d]
  repeat refine ⟨by first|omega|(and_intros<;>first|omega|exact rows_row _|decide|(simp<;>omega))|fail,?_⟩
  refine hK _ (Aw_no rfl (Aw_skip (hB12 _ ?_)))
  by_cases hi0:i=0
  ·have hz:decide ((0:Int) < (i:Int))=false:=decide_eq_false (by omega)
   have hpv:prevG l i=none:=by rw [hi0];rfl
   rw [hpv] at hst
   simp only [Bool.true_and] at hst
   have hst:allG h0 true none l=allG h0 true (prevG l (i + 1)) (l.drop (i + 1)):=hst
   refine Aw_se hE [0,1,2,3,4,5,6,7,8,9,10,11,12,13,14,15,16] [0,1,3,7,15,7,39,127,255,511,1023,7,2055,6151,16383,32767,65535] [1,16,17,18,63] [1] (by kernel_rfl) fun K hK=>?_
   refine daopsE_cut 6 fun K1 hK1=>?_
   simp only [go_sem,seval,hz]
   repeat refine ⟨by first|omega|(and_intros<;>first|omega|exact rows_row _|decide|(simp<;>omega))|fail,?_⟩
   refine hK1 _ ?_
   clear hK1
   refine daopsE_cut 6 fun K1 hK1=>?_
   simp only [go_sem,seval,hz]
   repeat refine ⟨by first|omega|(and_intros<;>first|omega|exact rows_row _|decide|(simp<;>omega))|fail,?_⟩
   refine hK1 _ ?_
   clear hK1
   simp only [go_sem,seval,hz]
   repeat refine ⟨by first|omega|(and_intros<;>first|omega|exact rows_row _|decide|(simp<;>omega))|fail,?_⟩
   refine hK _ (Aw_no rfl (Aw_skip (hN11 _ (hB10 _ ?_))))
   refine Aw_tx hE [1,16,17,18] [1] fun K hK=>?_
   simp only [go_sem,seval]
   repeat refine ⟨by first|omega|(and_intros<;>first|omega|exact rows_row _|decide|(simp<;>omega))|fail,?_⟩
   refine hK _ (hN7 (i + 1) _ ⟨by omega,hst,hnx⟩ (by omega) (Le.refl _))
  ·have hz:decide ((0:Int) < (i:Int))=true:=decide_eq_true (by omega)
   have et:((i:Int) - 1).toNat=i - 1:=by omega
   have hget2:=grows_get l (i - 1) (by omega)
   have hrq:=hi3 (i - 1) (by omega) _ (List.getElem?_eq_getElem (by omega))
   have hpv:prevG l i=some l[i - 1]:=by
    cases i with
    | zero=>exact absurd rfl hi0
    | succ j=>exact List.getElem?_eq_getElem (by omega)
   rw [hpv] at hst hstop
   generalize l[i - 1]=y at hget2 hst hstop hrq
   obtain ⟨⟨qf,qb,qp,qk,qm⟩,qo⟩:=y
   simp only at hst hstop hrq
   cases hq:decide (rCmp qf qb rf rb < 0) with
   | true =>
    rw [hq,Bool.true_and] at hst
    have hq2:decide (0≤rCmp qf qb rf rb)=false:=by
     simp only [decide_eq_true_eq] at hq
     exact decide_eq_false (by omega)
    refine Aw_se hE [0,1,2,3,4,5,6,7,8,9,10,11,12,13,14,15,16] [0,1,3,7,15,7,39,127,255,511,1023,7,2055,6151,16383,32767,65535] [1,16,17,18,63] [1] (by kernel_rfl) fun K hK=>?_
    refine daopsE_cut 6 fun K1 hK1=>?_
    simp only [go_sem,seval,hz,et,hget2,hrq,hrr,hq2,Bool.and_self,if_true]
    repeat refine ⟨by first|omega|(and_intros<;>first|omega|exact rows_row _|decide|(simp<;>omega))|fail,?_⟩
    refine hK1 _ ?_
    clear hK1
    refine daopsE_cut 6 fun K1 hK1=>?_
    simp only [go_sem,seval,hz,et,hget2,hrq,hrr,hq2,Bool.and_self,if_true]
    repeat refine ⟨by first|omega|(and_intros<;>first|omega|exact rows_row _|decide|(simp<;>omega))|fail,?_⟩
    refine hK1 _ ?_
    clear hK1
    simp only [go_sem,seval,hz,et,hget2,hrq,hrr,hq2,Bool.and_self,if_true]
    repeat refine ⟨by first|omega|(and_intros<;>first|omega|exact rows_row _|decide|(simp<;>omega))|fail,?_⟩
    refine hK _ (Aw_no rfl (Aw_skip (hN11 _ (hB10 _ ?_))))
    refine Aw_tx hE [1,16,17,18] [1] fun K hK=>?_
    simp only [go_sem,seval]
    repeat refine ⟨by first|omega|(and_intros<;>first|omega|exact rows_row _|decide|(simp<;>omega))|fail,?_⟩
    refine hK _ (hN7 (i + 1) _ ⟨by omega,hst,hnx⟩ (by omega) (Le.refl _))
   | false =>
    have hf:=hstop hq
    have hq2:decide (0≤rCmp qf qb rf rb)=true:=by
     simp only [decide_eq_false_iff_not] at hq
     exact decide_eq_true (by omega)
    refine Aw_se hE [0,1,2,3,4,5,6,7,8,9,10,11,12,13,14,15,16] [0,1,3,7,15,7,39,127,255,511,1023,7,2055,6151,16383,32767,65535] [1,16,17,18,63] [1] (by kernel_rfl) fun K hK=>?_
    refine daopsE_cut 6 fun K1 hK1=>?_
    simp only [go_sem,seval,hz,et,hget2,hrq,hrr,hq2,Bool.and_self,if_true]
    repeat refine ⟨by first|omega|(and_intros<;>first|omega|exact rows_row _|decide|(simp<;>omega))|fail,?_⟩
    refine hK1 _ ?_
    clear hK1
    refine daopsE_cut 6 fun K1 hK1=>?_
    simp only [go_sem,seval,hz,et,hget2,hrq,hrr,hq2,Bool.and_self,if_true]
    repeat refine ⟨by first|omega|(and_intros<;>first|omega|exact rows_row _|decide|(simp<;>omega))|fail,?_⟩
    refine hK1 _ ?_
    clear hK1
    simp only [go_sem,seval,hz,et,hget2,hrq,hrr,hq2,Bool.and_self,if_true]
    repeat refine ⟨by first|omega|(and_intros<;>first|omega|exact rows_row _|decide|(simp<;>omega))|fail,?_⟩
    refine hK _ (Aw_yes rfl ?_)
    refine Aw_st hE [2] [] fun K hK=>?_
    simp only [go_sem,seval]
    refine hK _ (Aw_ret (hR11 _ (hR10 _ (hR7 _ (hR6 _ (hR5 _ (hQ _ ?_)))))))
    simp only [go_sem,seval,hf]
 ·subst hu ho
  refine Aw_se hE [0,1,2,3,4,5,6,7,8,9,10,11,12,13,14,15,16,17,18,19,20,21,22,23] [0,1,3,7,15,31,63,127,255,511,31,1055,4095,8191,16383,32767,65535,131071,262143,524287,1048575,2097151,4194303,8388607] [1,3,4,16,17,18,46] [1,4] (by kernel_rfl) fun K hK=>?_
  refine daopsE_cut 6 fun K1 hK1=>?_
  simp only [go_sem,seval,h1,hp0,h2d]
  repeat refine ⟨by first|omega|(and_intros<;>first|omega|exact rows_row _|decide|(simp<;>omega))|fail,?_⟩
  refine hK1 _ ?_
  clear hK1
  refine daopsE_cut 6 fun K1 hK1=>?_
  simp only [go_sem,seval,h1,hp0,h2d]
  repeat refine ⟨by first|omega|(and_intros<;>first|omega|exact rows_row _|decide|(simp<;>omega))|fail,?_⟩
  refine hK1 _ ?_
  clear hK1
  refine daopsE_cut 6 fun K1 hK1=>?_
  simp only [go_sem,seval,h1,hp0,h2d]
  repeat refine ⟨by first|omega|(and_intros<;>first|omega|exact rows_row _|decide|(simp<;>omega))|fail,?_⟩
  refine hK1 _ ?_
  clear hK1
  simp only [go_sem,seval,h1,hp0,h2d]
  repeat refine ⟨by first|omega|(and_intros<;>first|omega|exact rows_row _|decide|(simp<;>omega))|fail,?_⟩
  refine hK _ (Aw_no rfl (Aw_skip (hB12 _ ?_)))
  by_cases hi0:i=0
  ·have hz:decide ((0:Int) < (i:Int))=false:=decide_eq_false (by omega)
   have hpv:prevG l i=none:=by rw [hi0];rfl
   rw [hpv] at hst
   simp only [Bool.true_and] at hst
   have hst:allG h0 false none l=allG h0 false (prevG l (i + 1)) (l.drop (i + 1)):=hst
   refine Aw_se hE [0,1,2,3,4,5,6,7,8,9,10,11,12,13,14,15,16] [0,1,3,7,15,7,39,127,255,511,1023,7,2055,6151,16383,32767,65535] [1,16,17,18,63] [1] (by kernel_rfl) fun K hK=>?_
   refine daopsE_cut 6 fun K1 hK1=>?_
   simp only [go_sem,seval,hz]
   repeat refine ⟨by first|omega|(and_intros<;>first|omega|exact rows_row _|decide|(simp<;>omega))|fail,?_⟩
   refine hK1 _ ?_
   clear hK1
   refine daopsE_cut 6 fun K1 hK1=>?_
   simp only [go_sem,seval,hz]
   repeat refine ⟨by first|omega|(and_intros<;>first|omega|exact rows_row _|decide|(simp<;>omega))|fail,?_⟩
   refine hK1 _ ?_
   clear hK1
   simp only [go_sem,seval,hz]
   repeat refine ⟨by first|omega|(and_intros<;>first|omega|exact rows_row _|decide|(simp<;>omega))|fail,?_⟩
   refine hK _ (Aw_no rfl (Aw_skip (hN11 _ (hB10 _ ?_))))
   refine Aw_tx hE [1,16,17,18] [1] fun K hK=>?_
   simp only [go_sem,seval]
   repeat refine ⟨by first|omega|(and_intros<;>first|omega|exact rows_row _|decide|(simp<;>omega))|fail,?_⟩
   refine hK _ (hN7 (i + 1) _ ⟨by omega,hst,hnx⟩ (by omega) (Le.refl _))
  ·have hz:decide ((0:Int) < (i:Int))=true:=decide_eq_true (by omega)
   have et:((i:Int) - 1).toNat=i - 1:=by omega
   have hget2:=grows_get l (i - 1) (by omega)
   have hrq:=hi3 (i - 1) (by omega) _ (List.getElem?_eq_getElem (by omega))
   have hpv:prevG l i=some l[i - 1]:=by
    cases i with
    | zero=>exact absurd rfl hi0
    | succ j=>exact List.getElem?_eq_getElem (by omega)
   rw [hpv] at hst hstop
   generalize l[i - 1]=y at hget2 hst hstop hrq
   obtain ⟨⟨qf,qb,qp,qk,qm⟩,qo⟩:=y
   simp only at hst hstop hrq
   cases hq:decide (rCmp qf qb rf rb < 0) with
   | true =>
    rw [hq,Bool.true_and] at hst
    have hq2:decide (0≤rCmp qf qb rf rb)=false:=by
     simp only [decide_eq_true_eq] at hq
     exact decide_eq_false (by omega)
    refine Aw_se hE [0,1,2,3,4,5,6,7,8,9,10,11,12,13,14,15,16] [0,1,3,7,15,7,39,127,255,511,1023,7,2055,6151,16383,32767,65535] [1,16,17,18,63] [1] (by kernel_rfl) fun K hK=>?_
    refine daopsE_cut 6 fun K1 hK1=>?_
    simp only [go_sem,seval,hz,et,hget2,hrq,hrr,hq2,Bool.and_self,if_true]
    repeat refine ⟨by first|omega|(and_intros<;>first|omega|exact rows_row _|decide|(simp<;>omega))|fail,?_⟩
    refine hK1 _ ?_
    clear hK1
    refine daopsE_cut 6 fun K1 hK1=>?_
    simp only [go_sem,seval,hz,et,hget2,hrq,hrr,hq2,Bool.and_self,if_true]
    repeat refine ⟨by first|omega|(and_intros<;>first|omega|exact rows_row _|decide|(simp<;>omega))|fail,?_⟩
    refine hK1 _ ?_
    clear hK1
    simp only [go_sem,seval,hz,et,hget2,hrq,hrr,hq2,Bool.and_self,if_true]
    repeat refine ⟨by first|omega|(and_intros<;>first|omega|exact rows_row _|decide|(simp<;>omega))|fail,?_⟩
    refine hK _ (Aw_no rfl (Aw_skip (hN11 _ (hB10 _ ?_))))
    refine Aw_tx hE [1,16,17,18] [1] fun K hK=>?_
    simp only [go_sem,seval]
    repeat refine ⟨by first|omega|(and_intros<;>first|omega|exact rows_row _|decide|(simp<;>omega))|fail,?_⟩
    refine hK _ (hN7 (i + 1) _ ⟨by omega,hst,hnx⟩ (by omega) (Le.refl _))
   | false =>
    have hf:=hstop hq
    have hq2:decide (0≤rCmp qf qb rf rb)=true:=by
     simp only [decide_eq_false_iff_not] at hq
     exact decide_eq_true (by omega)
    refine Aw_se hE [0,1,2,3,4,5,6,7,8,9,10,11,12,13,14,15,16] [0,1,3,7,15,7,39,127,255,511,1023,7,2055,6151,16383,32767,65535] [1,16,17,18,63] [1] (by kernel_rfl) fun K hK=>?_
    refine daopsE_cut 6 fun K1 hK1=>?_
    simp only [go_sem,seval,hz,et,hget2,hrq,hrr,hq2,Bool.and_self,if_true]
    repeat refine ⟨by first|omega|(and_intros<;>first|omega|exact rows_row _|decide|(simp<;>omega))|fail,?_⟩
    refine hK1 _ ?_
    clear hK1
    refine daopsE_cut 6 fun K1 hK1=>?_
    simp only [go_sem,seval,hz,et,hget2,hrq,hrr,hq2,Bool.and_self,if_true]
    repeat refine ⟨by first|omega|(and_intros<;>first|omega|exact rows_row _|decide|(simp<;>omega))|fail,?_⟩
    refine hK1 _ ?_
    clear hK1
    simp only [go_sem,seval,hz,et,hget2,hrq,hrr,hq2,Bool.and_self,if_true]
    repeat refine ⟨by first|omega|(and_intros<;>first|omega|exact rows_row _|decide|(simp<;>omega))|fail,?_⟩
    refine hK _ (Aw_yes rfl ?_)
    refine Aw_st hE [2] [] fun K hK=>?_
    simp only [go_sem,seval]
    refine hK _ (Aw_ret (hR11 _ (hR10 _ (hR7 _ (hR6 _ (hR5 _ (hQ _ ?_)))))))
    simp only [go_sem,seval,hf]
end Go.Proofs.W
end
section
namespace Go.Proofs.W
open Go Go.Eng Go.RowKit
set_option linter.unusedSimpArgs false
set_option maxRecDepth 100000
/-! the program's linked lists -/
mutual
theorem avLe_rfl:∀ x:AV,avLe x x
 | .v _=>rfl
 | .nl=>rfl
 | .sl none _=>rfl
 | .sl (some _) _=>rfl
 | .agg l=>avLeL_rfl l
 | .tup l=>avLeL_rfl l
 | .loc _ _=>rfl
 | .xs _ _ _ _ _=>rfl
 | .el _=>rfl
 | .rd=>rfl
 | .dv _=>rfl
 | .mr _=>rfl
 | .mb _=>rfl
 | .junk=>trivial
theorem avLeL_rfl:∀ l:List AV,avLeL l l
 | []=>trivial
 | x::l=>⟨avLe_rfl x,avLeL_rfl l⟩
end
theorem avLe_self (x:AV):avLe x x=True:=eq_true (avLe_rfl x)
theorem avLeL_self (l:List AV):avLeL l l=True:=eq_true (avLeL_rfl l)
def gCopyGot:List AV→Option (Prop × AV)
 | [.agg [.v (.int .i64 f),.v (.int .i64 b),.sl _ e1,.v (.int .i64 k),.sl _ e2,.v (.bool o)]]=>(match intsL e1,intsL e2 with
  | some p,some m=>some (p.length≤1000000∧m.length≤1000000,.agg [iv f,iv b,isl p,iv k,isl m,bv o])
  | _,_=>none)
 | _=>none
def dCopyGot:DFn:={ g:=gCopyGot }
attribute [go_sem] gCopyGot dCopyGot
theorem copyGot_ok:Fine Tryz.prog 66 dCopyGot.con:=by
 refine fine_det (T:=TT) Tryz.func66 rfl Tryz.ntmps66 (by rw [Tryz.results66]) rfl rfl tt (gs_nil) (ds_cons copyD_ok ds_nil) ?_
 intro args c r h hc
 simp only [dCopyGot,gCopyGot] at h
 split at h
 rotate_left
 ·cases h
 split at h
 rotate_left
 ·cases h
 rename_i f b e1 k0 e2 o _ _ p m hl1 hl2
 obtain rfl:=intsL_eq hl1
 obtain rfl:=intsL_eq hl2
 obtain ⟨rfl,rfl⟩:=Prod.mk.inj (Option.some.inj h)
 refine ⟨by simp,fun k E hE Q hQ=>?_⟩
 refine Aw_st hE [1,2] [1,2] fun K hK=>?_
 simp only [go_sem,seval]
 refine hK _ ?_;clear hK K
 apply (fun F0 F1=>Aw_sD hE [([0,1,3,4],(.alt 2 (.ref 1) .non)),([0,1,2,3,4],(.alt 5 (.alt 6 .done .non) .non))] (.fst 0 (.fst 3 (.alt 1 (.alt 2 (.alt 4 (.ref 1) .non) (.alt 4 (.ref 0) .non)) (.alt 4 (.alt 1 (.ref 0) .non) .non)))) [F0,F1] [2] [2])
 ·kernel_rfl
 intro K hK
 refine And.intro ?_ (And.intro ?_ (And.intro ?_ trivial))
 iterate 2 (focus (simp only [go_sem,seval,↓avLe_self,↓avLeL_self];repeat' (first | exact (fun _ _ r=>r) | exact LeE_eq (by simp only [go_sem,seval,↓avLe_self,↓avLeL_self]) (by simp only [go_sem,seval,↓avLe_self,↓avLeL_self]) | exact LeE_wk (by simp only [go_sem,seval,↓avLe_self,↓avLeL_self]) (by simp only [go_sem,seval,↓avLe_self,↓avLeL_self]) | refine And.intro (by first|omega|(and_intros<;>first|omega|exact crows_row _|exact rrows_row _|exact rows_row _|decide|(simp<;>omega))|fail) ?_ | refine And.intro ?_ ?_)))
 simp only [go_sem,seval,↓avLe_self,↓avLeL_self]
 refine hK _ (Aw_ret (hQ _ ?_))
 simp only [go_sem,seval]
/-- a list of what is settled -/
def chD:List Gt→DV
 | []=>.v (.pointer none)
 | g::l=>.ptr (g.row++[chD l])
theorem chD_inj:∀ {l l':List Gt},chD l=chD l'→l=l'
 | [],[],_=>rfl
 | [],_::_,h=>by cases h
 | _::_,[],h=>by cases h
 | g::l,g'::l',h=>by
  simp only [chD,DV.ptr.injEq,Gt.row,List.cons_append,List.nil_append,List.cons.injEq,DV.v.injEq,DV.sl.injEq,Value.int.injEq,Value.bool.injEq,true_and,and_true] at h
  obtain ⟨h1,h2,h3,h4,h5,h6,h7⟩:=h
  have i1:∀ {a b:List Int},rows a=rows b→a=b:=fun {a b} e=>by
   have:=congrArg intsL e
   rw [intsL_rows,intsL_rows] at this
   exact Option.some.inj this
  obtain ⟨⟨f,b,p,k,m⟩,o⟩:=g
  obtain ⟨⟨f',b',p',k',m'⟩,o'⟩:=g'
  simp only at h1 h2 h3 h4 h5 h6
  rw [h1,h2,i1 h3,h4,i1 h5,h6,chD_inj h7]
abbrev sesA (h:Int) (up:Bool) (l:List Gt) (n:Int):AV:=.el [.v (.int .i64 h),.v (.bool up),chD l,.v (.int .i64 n)]
def cRibL:Con:={
 pre:=fun args=>∃ (h:Int) (up:Bool) (l:List Gt) (n:Int),args=[sesA h up l n]∧l.length≤1000
 post:=fun args r=>∀ (h:Int) (up:Bool) (l:List Gt) (n:Int),args=[sesA h up l n]→r = .agg [iv h,bv up,.sl none (grows l)] }
theorem cRibL_own:cRibL.own=false:=rfl
theorem cRibL_draws:cRibL.draws=false:=rfl
theorem cRibL_cost:cRibL.cost=0:=rfl
attribute [go_sem] cRibL_own cRibL_draws cRibL_cost
theorem sesA_inj {h h' n n':Int} {up up':Bool} {l l':List Gt} (e:[sesA h up l n]=[sesA h' up' l' n']):h=h'∧up=up'∧l=l'∧n=n':=by
 simp only [List.cons.injEq,AV.el.injEq,DV.v.injEq,Value.int.injEq,Value.bool.injEq,true_and,and_true] at e
 exact ⟨e.1,e.2.1,chD_inj e.2.2.1,e.2.2.2⟩
theorem ribL_pre (h:Int) (up:Bool) (l:List Gt) (n:Int):cRibL.pre [sesA h up l n]=(l.length≤1000):=by
 apply propext
 refine ⟨fun ⟨h',up',l',n',e,hl⟩=>?_,fun hl=>⟨h,up,l,n,rfl,hl⟩⟩
 obtain ⟨rfl,rfl,rfl,rfl⟩:=sesA_inj e
 exact hl
theorem ribL_post (h:Int) (up:Bool) (l:List Gt) (n:Int) (K:AV→Prop):(∀ r,cRibL.post [sesA h up l n] r→K r)=K (.agg [iv h,bv up,.sl none (grows l)]):=by
 apply propext
 refine ⟨fun hh=>hh _ fun h' up' l' n' e=>?_,fun hh r hr=>?_⟩
 ·obtain ⟨rfl,rfl,rfl,rfl⟩:=sesA_inj e;rfl
 ·rw [hr h up l n rfl];exact hh
theorem ribL_ex (h:Int) (up:Bool) (l:List Gt) (n:Int):(∃ r,cRibL.post [sesA h up l n] r)=True:=eq_true ⟨_,fun h' up' l' n' e=>by obtain ⟨rfl,rfl,rfl,rfl⟩:=sesA_inj e;rfl⟩
attribute [go_sem] ribL_pre ribL_post ribL_ex
def ribC:List Gt→AV
 | []=>.nl
 | g::l=>.sl (some (31,0,41)) (grows (g::l))
theorem ribC_some {l:List Gt} (h:l≠[]):ribC l = .sl (some (31,0,41)) (grows l):=by
 cases l with
 | nil=>exact absurd rfl h
 | cons g l=>rfl
theorem grows_one (f b:Int) (p:List Int) (k:Int) (m:List Int) (o:Bool):[[DV.v (.int .i64 f),.v (.int .i64 b),.sl (rows p),.v (.int .i64 k),.sl (rows m),.v (.bool o)]]=grows [⟨⟨f,b,p,k,m⟩,o⟩]:=rfl
theorem ribL_ok:Fine Tryz.prog 44 cRibL:=by
 refine fine_of (T:=TT) Tryz.func44 rfl Tryz.ntmps44 (by rw [Tryz.results44]) rfl rfl tt (gs_nil) (ds_nil) ?_
 rintro args ⟨h0,up,l,n0,rfl,hl⟩
 refine ⟨by simp,fun k hk E hE Q hQ=>?_⟩
 refine Aw_st hE [0,2] [2] fun K hK=>?_
 simp only [go_sem,seval]
 refine hK _ ?_;clear hK K
 apply (fun F0 F1 F2 F3 F4 F5 F6 F7 F8 F9 F10 F11 F12=>Aw_sD hE [([0,1,2,4,9],(.alt 3 (.ref 2) (.alt 5 (.fst 6 (.ref 7)) .non))),([0,4,5,6,9],(.alt 1 (.fst 2 (.ref 7)) (.alt 7 (.ref 4) .non))),([0,1,2,3,4,9],(.alt 5 (.fst 6 (.ref 9)) .non)),([0,1,2,4,5,6],(.alt 3 (.ref 5) (.alt 7 (.ref 6) (.alt 9 (.ref 7) .non)))),([0,4,5,6,7,9],(.alt 1 (.fst 2 (.ref 10)) .non)),([0,1,2,3,4,5,6],(.alt 7 (.ref 8) (.alt 9 (.ref 9) .non))),([0,1,2,4,5,6,7],(.alt 3 (.ref 8) (.alt 9 (.ref 10) .non))),([0,1,2,4,5,6,9],(.alt 3 (.ref 9) (.alt 7 (.ref 10) .non))),([0,1,2,3,4,5,6,7],(.alt 8 (.alt 9 (.ref 12) .non) (.alt 9 (.ref 11) .non))),([0,1,2,3,4,5,6,9],(.alt 7 (.ref 11) .non)),([0,1,2,4,5,6,7,9],(.alt 3 (.ref 11) .non)),([0,1,2,3,4,5,6,7,9],(.alt 8 (.ref 12) .non)),([0,1,2,3,4,5,6,7,8,9],(.alt 10 .done .non))] (.fst 0 (.fst 4 (.alt 1 (.fst 2 (.alt 3 (.alt 5 (.fst 6 (.ref 5)) (.alt 9 (.ref 2) .non)) (.alt 5 (.fst 6 (.ref 3)) (.alt 9 (.ref 0) .non)))) (.alt 5 (.fst 6 (.alt 1 (.fst 2 (.ref 3)) (.alt 7 (.alt 1 (.fst 2 (.ref 6)) (.alt 9 (.ref 4) .non)) (.alt 9 (.ref 1) .non)))) (.alt 9 (.alt 1 (.fst 2 (.ref 0)) (.alt 5 (.fst 6 (.ref 1)) .non)) .non))))) [F0,F1,F2,F3,F4,F5,F6,F7,F8,F9,F10,F11,F12] [0,2,3] [2,3])
 ·kernel_rfl
 intro K hK
 refine And.intro ?_ (And.intro ?_ (And.intro ?_ (And.intro ?_ (And.intro ?_ (And.intro ?_ (And.intro ?_ (And.intro ?_ (And.intro ?_ (And.intro ?_ (And.intro ?_ (And.intro ?_ (And.intro ?_ (And.intro ?_ trivial)))))))))))))
 iterate 13 (focus (simp only [go_sem,seval,↓avLe_self,↓avLeL_self];repeat' (first | exact (fun _ _ r=>r) | exact LeE_eq (by simp only [go_sem,seval,↓avLe_self,↓avLeL_self]) (by simp only [go_sem,seval,↓avLe_self,↓avLeL_self]) | exact LeE_wk (by simp only [go_sem,seval,↓avLe_self,↓avLeL_self]) (by simp only [go_sem,seval,↓avLe_self,↓avLeL_self]) | refine And.intro (by first|omega|(and_intros<;>first|omega|exact crows_row _|exact rrows_row _|exact rows_row _|decide|(simp<;>omega))|fail) ?_ | refine And.intro ?_ ?_)))
 simp only [go_sem,seval,↓avLe_self,↓avLeL_self]
 refine hK _ ?_;clear hK K
 refine Aw_sq fun B1 hB1 hR1 hX1=>?_
 refine Aw_st hE [2,3,4] [2,3] fun K hK=>?_
 simp only [go_sem,seval]
 refine hK _ ?_;clear hK K
 refine Aw_bk fun B2 hN2 hE2 hR2 hX2=>?_
 refine Aw_lp (fun i:Nat=>⟨34,[(2,.loc 2 0),(3,.loc 3 0),(4,(chD (l.drop i)).toAV)],[(2,[iv 0,bv false,.nl]),(3,[iv h0,bv up,ribC (l.take i)])],k⟩) (fun i=>i≤l.length) (fun i=>l.length - i) 0 (Le.refl _) (by omega) fun i hi B3 hN3 hR3 hX3=>?_
 refine Aw_sq fun B4 hB4 hR4 hX4=>?_
 by_cases hil:i < l.length
 ·have hd:l.drop i=l[i]::l.drop (i + 1):=List.drop_eq_getElem_cons hil
  have htk:l.take (i + 1)=l.take i++[l[i]]:=List.take_succ_eq_append_getElem hil
  have hne:l.take (i + 1)≠[]:=by rw [htk];exact List.append_ne_nil_of_right_ne_nil _ (List.cons_ne_nil _ _)
  have hlt:(l.take i).length≤1000:=by rw [List.length_take];omega
  have hrc:=ribC_some hne
  rw [htk] at hrc
  generalize l.take i=o at hrc hlt htk ⊢
  rw [hd]
  generalize l[i]=g at hrc htk ⊢
  obtain ⟨⟨rf,rb,p,rk,m⟩,old⟩:=g
  simp only [chD,DV.toAV,Gt.row,List.cons_append,List.nil_append]
  refine Aw_stP hE [2,3,4,19] [2,3] fun K hK=>?_
  simp only [go_sem,seval]
  refine hK _ (Aw_yes rfl (Aw_skip (hB4 _ ?_)))
  refine Aw_sq fun B6 hB6 hR6 hX6=>?_
  refine Aw_bk fun B7 hN7 hE7 hR7 hX7=>?_
  by_cases ho:o=[]
  ·subst ho
   simp only [ribC]
   apply (fun F0 F1 F2=>Aw_tD hE [([0,1,2,3,4],(.alt 5 (.ref 1) .non)),([0,1,2,3,4,5],(.alt 6 (.ref 2) .non)),([0,1,2,3,4,5,6],(.alt 7 (.fst 8 (.alt 9 .done .non)) .non))] (.fst 0 (.fst 2 (.alt 1 (.alt 3 (.fst 4 (.ref 0)) .non) (.alt 3 (.fst 4 (.alt 1 (.ref 0) (.alt 5 (.alt 1 (.ref 1) (.alt 6 (.alt 1 (.ref 2) .non) .non)) .non))) .non)))) [F0,F1,F2] [2,3,4] [2,3])
   ·kernel_rfl
   intro K hK
   refine And.intro ?_ (And.intro ?_ (And.intro ?_ (And.intro ?_ trivial)))
   iterate 3 (focus (simp only [go_sem,seval,↓avLe_self,↓avLeL_self,grows_one,List.nil_append];repeat' (first | exact (fun _ _ r=>r) | exact LeE_eq (by simp only [go_sem,seval,↓avLe_self,↓avLeL_self,grows_one,List.nil_append]) (by simp only [go_sem,seval,↓avLe_self,↓avLeL_self,grows_one,List.nil_append]) | exact LeE_wk (by simp only [go_sem,seval,↓avLe_self,↓avLeL_self,grows_one,List.nil_append]) (by simp only [go_sem,seval,↓avLe_self,↓avLeL_self,grows_one,List.nil_append]) | refine And.intro (by first|omega|(and_intros<;>first|omega|exact crows_row _|exact rrows_row _|exact rows_row _|decide|(simp<;>omega))|fail) ?_ | refine And.intro ?_ ?_)))
   simp only [go_sem,seval,↓avLe_self,↓avLeL_self,grows_one,List.nil_append]
   refine ⟨grows_row _,?_⟩
   refine hK _ (hN7 _ (hB6 _ ?_))
   refine Aw_tx hE [2,3,4] [2,3] fun K hK=>?_
   simp only [go_sem,seval]
   refine hK _ (hN3 (i + 1) _ (by omega) (by omega) ?_)
   simp only [List.nil_append] at hrc htk
   rw [htk,hrc]
   exact Le.refl _
  ·rw [ribC_some ho]
   apply (fun F0 F1 F2=>Aw_tD hE [([0,1,2,3,4],(.alt 5 (.ref 1) .non)),([0,1,2,3,4,5],(.alt 6 (.ref 2) .non)),([0,1,2,3,4,5,6],(.alt 7 (.fst 8 (.alt 9 .done .non)) .non))] (.fst 0 (.fst 2 (.alt 1 (.alt 3 (.fst 4 (.ref 0)) .non) (.alt 3 (.fst 4 (.alt 1 (.ref 0) (.alt 5 (.alt 1 (.ref 1) (.alt 6 (.alt 1 (.ref 2) .non) .non)) .non))) .non)))) [F0,F1,F2] [2,3,4] [2,3])
   ·kernel_rfl
   intro K hK
   refine And.intro ?_ (And.intro ?_ (And.intro ?_ (And.intro ?_ trivial)))
   iterate 3 (focus (simp only [go_sem,seval,↓avLe_self,↓avLeL_self,grows_one];repeat' (first | exact (fun _ _ r=>r) | exact LeE_eq (by simp only [go_sem,seval,↓avLe_self,↓avLeL_self,grows_one]) (by simp only [go_sem,seval,↓avLe_self,↓avLeL_self,grows_one]) | exact LeE_wk (by simp only [go_sem,seval,↓avLe_self,↓avLeL_self,grows_one]) (by simp only [go_sem,seval,↓avLe_self,↓avLeL_self,grows_one]) | refine And.intro (by first|omega|(and_intros<;>first|omega|exact crows_row _|exact rrows_row _|exact rows_row _|decide|(simp<;>omega))|fail) ?_ | refine And.intro ?_ ?_)))
   simp only [go_sem,seval,↓avLe_self,↓avLeL_self,grows_one]
   refine ⟨⟨grows_row _,by omega⟩,?_⟩
   refine hK _ (hN7 _ (hB6 _ ?_))
   refine Aw_tx hE [2,3,4] [2,3] fun K hK=>?_
   simp only [go_sem,seval]
   refine hK _ (hN3 (i + 1) _ (by omega) (by omega) ?_)
   rw [htk,hrc]
   exact Le.refl _
 ·have hil2:i=l.length:=by omega
  subst hil2
  rw [List.drop_length,List.take_length]
  simp only [chD,DV.toAV]
  refine Aw_stP hE [2,3,4,19] [2,3] fun K hK=>?_
  simp only [go_sem,seval]
  refine hK _ (Aw_no rfl (Aw_exit (hX4 _ _ (hX3 _ _ (hE2 _ (hB1 _ ?_))))))
  by_cases ho:l=[]
  ·subst ho
   simp only [ribC]
   refine Aw_st hE [2] [2] fun K hK=>?_
   simp only [go_sem,seval]
   refine hK _ (Aw_ret (hQ _ ?_))
   simp only [go_sem,seval]
   intro h' up' l' n' e
   obtain ⟨rfl,rfl,rfl,rfl⟩:=sesA_inj e
   rfl
  ·rw [ribC_some ho]
   refine Aw_st hE [2] [2] fun K hK=>?_
   simp only [go_sem,seval]
   refine hK _ (Aw_ret (hQ _ ?_))
   simp only [go_sem,seval]
   intro h' up' l' n' e
   obtain ⟨rfl,rfl,rfl,rfl⟩:=sesA_inj e
   rfl
end Go.Proofs.W
end
section
namespace Go.Proofs.W
open Go Go.Eng Go.RowKit
set_option linter.unusedSimpArgs false
set_option maxRecDepth 100000
/-! lists of nodes,as boxes -/
def hdB:List Gt→Nat→AV
 | [],_=>.v (.pointer none)
 | _::_,k=>.loc k 0
def ndB:List Gt→Nat→List (Nat × List AV)
 | [],_=>[]
 | g::l,k=>(k,gcs g++[hdB l (k + 1)])::ndB l (k + 1)
def sesB (h:Int) (up:Bool) (l:List Gt):List (Nat × List AV):=(600,[iv h,bv up,hdB l 601,iv l.length])::ndB l 601
attribute [go_sem] hdB ndB sesB gcs
def cOpen:ConM:={
 pre:=fun args m1=>∃ (h:Int) (up:Bool) (l:List Gt),args=[.agg [iv h,bv up,.sl none (grows l)]]∧m1=[]∧l.length≤6∧lensG l
 post:=fun args _ r m2=>∀ (h:Int) (up:Bool) (l:List Gt),args=[.agg [iv h,bv up,.sl none (grows l)]]→∀ K:AV→List (Nat × List AV)→Prop,K (.loc 600 0) (sesB h up l)→K r m2 }
theorem open_pre (h:Int) (up:Bool) (l:List Gt):cOpen.pre [.agg [iv h,bv up,.sl none (grows l)]] []=(l.length≤6∧lensG l):=by
 apply propext
 constructor
 ·rintro ⟨h',up',l',e,_,h2⟩
  obtain ⟨rfl,rfl,rfl⟩:=rbav_inj e
  exact h2
 ·exact fun hh=>⟨h,up,l,rfl,rfl,hh⟩
theorem open_post (h:Int) (up:Bool) (l:List Gt) (m1:List (Nat × List AV)) (K:AV→List (Nat × List AV)→Prop):(∀ r m2,cOpen.post [.agg [iv h,bv up,.sl none (grows l)]] m1 r m2→K r m2)=K (.loc 600 0) (sesB h up l):=by
 apply propext
 constructor
 ·intro hh
  refine hh _ _ fun h' up' l' e K' hK'=>?_
  obtain ⟨rfl,rfl,rfl⟩:=rbav_inj e
  exact hK'
 ·exact fun hh r m2 hp=>hp h up l rfl K hh
attribute [go_sem] open_pre
theorem six {l:List Gt} (h:l.length≤6):l=[]∨(∃ g1,l=[g1])∨(∃ g1 g2,l=[g1,g2])∨(∃ g1 g2 g3,l=[g1,g2,g3])∨(∃ g1 g2 g3 g4,l=[g1,g2,g3,g4])∨(∃ g1 g2 g3 g4 g5,l=[g1,g2,g3,g4,g5])∨(∃ g1 g2 g3 g4 g5 g6,l=[g1,g2,g3,g4,g5,g6]):=by
 match l,h with
 | [],_=>exact .inl rfl
 | [a],_=>exact .inr (.inl ⟨_,rfl⟩)
 | [a,b],_=>exact .inr (.inr (.inl ⟨_,_,rfl⟩))
 | [a,b,c],_=>exact .inr (.inr (.inr (.inl ⟨_,_,_,rfl⟩)))
 | [a,b,c,d],_=>exact .inr (.inr (.inr (.inr (.inl ⟨_,_,_,_,rfl⟩))))
 | [a,b,c,d,e],_=>exact .inr (.inr (.inr (.inr (.inr (.inl ⟨_,_,_,_,_,rfl⟩)))))
 | [a,b,c,d,e,f],_=>exact .inr (.inr (.inr (.inr (.inr (.inr ⟨_,_,_,_,_,_,rfl⟩)))))
 | _::_::_::_::_::_::_::_,h=>simp at h
set_option maxHeartbeats 8000000 in
theorem open_ok:FineM Tryz.prog 42 cOpen:=by
 refine fineM_of [] ms_nil [] mm_nil [] [] ex_nil (T:=TT) Tryz.func42 rfl Tryz.ntmps42 (by rw [Tryz.results42]) rfl rfl tt gs_nil (ds_cons copyGot_ok ds_nil) ?_
 rintro args m1 ⟨h0,up,l,rfl,rfl,hl6,hlg⟩
 refine ⟨by simp,fun E hE Q hQ=>?_⟩
 have hpost:∀ m2,m2=sesB h0 up l→cOpen.post [.agg [iv h0,bv up,.sl none (grows l)]] [] (.loc 600 0) m2:=by
  intro m2 hm h' up' l' e K' hK'
  obtain ⟨rfl,rfl,rfl⟩:=rbav_inj e
  rw [hm];exact hK'
 refine Aw_st hE [1] [1,6,15,30,600,601,602,603,604,605,606] fun K hK=>?_
 simp only [go_sem,seval]
 refine hK _ ?_;clear hK K
 refine Aw_st hE [1,3] [1,6,15,30,600,601,602,603,604,605,606] fun K hK=>?_
 simp only [go_sem,seval]
 refine hK _ ?_;clear hK K
 refine Aw.leE (Le_E (Le_swb _ 15 600 (by decide) (by decide))) ?_
 simp only [St.swb,swbσ,swbm,AV.swb,AV.swbAll,swp,Nat.reduceEqDiff,if_true,if_false,reduceIte,gcs,List.cons_append,List.nil_append]
 refine Aw_st hE [1,3,4] [1,6,15,30,600,601,602,603,604,605,606] fun K hK=>?_
 simp only [go_sem,seval]
 refine hK _ ?_;clear hK K
 refine Aw_sq fun B1 hB1 hR1 hX1=>?_
 rcases six hl6 with rfl | ⟨g1,rfl⟩ | ⟨g1,g2,rfl⟩ | ⟨g1,g2,g3,rfl⟩ | ⟨g1,g2,g3,g4,rfl⟩ | ⟨g1,g2,g3,g4,g5,rfl⟩ | ⟨g1,g2,g3,g4,g5,g6,rfl⟩
 ·refine Aw_st hE [3,4,20,21,22] [1,6,15,30,600,601,602,603,604,605,606] fun K hK=>?_
  simp only [go_sem,seval]
  refine hK _ ?_;clear hK K
  refine Aw_bk fun B2 hN2 hE2 hR2 hX2=>?_
  refine Aw_unr 1 ?_
  refine Aw_rd fun B3_0 hN3_0 hR3_0 hX3_0=>?_
  refine Aw_st hE [3,4,20,21,22,23] [1,6,15,30,600,601,602,603,604,605,606] fun K hK=>?_
  simp only [go_sem,seval]
  refine hK _ ?_;clear hK K
  refine Aw_sq fun B4_0 hB4_0 hR4_0 hX4_0=>?_
  refine Aw_no rfl ?_
  refine Aw_exit (hX4_0 _ _ (hX3_0 _ _ (hE2 _ (hB1 _ ?_))))
  refine Aw_st hE [2] [1,6,15,30,600,601,602,603,604,605,606] fun K hK=>?_
  simp only [go_sem,seval]
  refine hK _ ?_
  refine Aw.leE (Le_E (Le_ks [2] [600])) ?_
  refine Aw_ret (hQ _ ?_)
  simp only [go_sem,seval]
  exact hpost _ rfl
 ·refine Aw_st hE [3,4,20,21,22] [1,6,15,30,600,601,602,603,604,605,606] fun K hK=>?_
  simp only [go_sem,seval]
  refine hK _ ?_;clear hK K
  refine Aw_bk fun B2 hN2 hE2 hR2 hX2=>?_
  refine Aw_unr 2 ?_
  refine Aw_rd fun B3_0 hN3_0 hR3_0 hX3_0=>?_
  refine Aw_st hE [3,4,20,21,22,23] [1,6,15,30,600,601,602,603,604,605,606] fun K hK=>?_
  simp only [go_sem,seval]
  refine hK _ ?_;clear hK K
  refine Aw_sq fun B4_0 hB4_0 hR4_0 hX4_0=>?_
  refine Aw_yes rfl ?_
  refine Aw_skip (hB4_0 _ ?_)
  refine Aw_sq fun B6_0 hB6_0 hR6_0 hX6_0=>?_
  refine Aw_bk fun B7_0 hN7_0 hE7_0 hR7_0 hX7_0=>?_
  have hg_0:(grows [g1])[0]? = some g1.row:=rfl
  have hln_0:=hlg g1 (by simp)
  refine Aw_st hE [3,4,6,20,21,22] [1,6,15,30,600,601,602,603,604,605,606] fun K hK=>?_
  simp only [go_sem,seval,hg_0,Int.reduceAdd]
  repeat refine ⟨by first|omega|(and_intros<;>first|omega|exact rows_row _|decide|(simp<;>omega))|fail,?_⟩
  refine hK _ ?_;clear hK K
  refine Aw_st hE [3,4,20,21,22] [1,6,15,30,600,601,602,603,604,605,606] fun K hK=>?_
  simp only [go_sem,seval]
  refine ⟨⟨by omega,by omega⟩,?_⟩
  refine hK _ ?_;clear hK K
  refine Aw_tx hE [3,4,20,21,22] [1,6,15,30,600,601,602,603,604,605,606] fun K hK=>?_
  simp only [go_sem,seval]
  refine hK _ (hN7_0 _ (hB6_0 _ ?_))
  refine Aw.leE (Le_E (Le_swb _ 30 601 (by decide) (by decide))) ?_
  simp only [St.swb,swbσ,swbm,AV.swb,AV.swbAll,swp,Nat.reduceEqDiff,if_true,if_false,reduceIte,gcs,List.cons_append,List.nil_append]
  refine Aw_tx hE [3,4,20,21,22] [1,6,15,30,600,601,602,603,604,605,606] fun K hK=>?_
  simp only [go_sem,seval,Int.reduceAdd]
  repeat refine ⟨by first|omega|(and_intros<;>first|omega|exact rows_row _|decide|(simp<;>omega))|fail,?_⟩
  refine hK _ (hN3_0 _ ?_)
  refine Aw_rd fun B3_1 hN3_1 hR3_1 hX3_1=>?_
  refine Aw_st hE [3,4,20,21,22,23] [1,6,15,30,600,601,602,603,604,605,606] fun K hK=>?_
  simp only [go_sem,seval]
  refine hK _ ?_;clear hK K
  refine Aw_sq fun B4_1 hB4_1 hR4_1 hX4_1=>?_
  refine Aw_no rfl ?_
  refine Aw_exit (hX4_1 _ _ (hX3_1 _ _ (hE2 _ (hB1 _ ?_))))
  refine Aw_st hE [2] [1,6,15,30,600,601,602,603,604,605,606] fun K hK=>?_
  simp only [go_sem,seval]
  refine hK _ ?_
  refine Aw.leE (Le_E (Le_ks [2] [600,601])) ?_
  refine Aw_ret (hQ _ ?_)
  simp only [go_sem,seval]
  exact hpost _ rfl
 ·refine Aw_st hE [3,4,20,21,22] [1,6,15,30,600,601,602,603,604,605,606] fun K hK=>?_
  simp only [go_sem,seval]
  refine hK _ ?_;clear hK K
  refine Aw_bk fun B2 hN2 hE2 hR2 hX2=>?_
  refine Aw_unr 3 ?_
  refine Aw_rd fun B3_0 hN3_0 hR3_0 hX3_0=>?_
  refine Aw_st hE [3,4,20,21,22,23] [1,6,15,30,600,601,602,603,604,605,606] fun K hK=>?_
  simp only [go_sem,seval]
  refine hK _ ?_;clear hK K
  refine Aw_sq fun B4_0 hB4_0 hR4_0 hX4_0=>?_
  refine Aw_yes rfl ?_
  refine Aw_skip (hB4_0 _ ?_)
  refine Aw_sq fun B6_0 hB6_0 hR6_0 hX6_0=>?_
  refine Aw_bk fun B7_0 hN7_0 hE7_0 hR7_0 hX7_0=>?_
  have hg_0:(grows [g1,g2])[0]? = some g1.row:=rfl
  have hln_0:=hlg g1 (by simp)
  refine Aw_st hE [3,4,6,20,21,22] [1,6,15,30,600,601,602,603,604,605,606] fun K hK=>?_
  simp only [go_sem,seval,hg_0,Int.reduceAdd]
  repeat refine ⟨by first|omega|(and_intros<;>first|omega|exact rows_row _|decide|(simp<;>omega))|fail,?_⟩
  refine hK _ ?_;clear hK K
  refine Aw_st hE [3,4,20,21,22] [1,6,15,30,600,601,602,603,604,605,606] fun K hK=>?_
  simp only [go_sem,seval]
  refine ⟨⟨by omega,by omega⟩,?_⟩
  refine hK _ ?_;clear hK K
  refine Aw_tx hE [3,4,20,21,22] [1,6,15,30,600,601,602,603,604,605,606] fun K hK=>?_
  simp only [go_sem,seval]
  refine hK _ (hN7_0 _ (hB6_0 _ ?_))
  refine Aw.leE (Le_E (Le_swb _ 30 601 (by decide) (by decide))) ?_
  simp only [St.swb,swbσ,swbm,AV.swb,AV.swbAll,swp,Nat.reduceEqDiff,if_true,if_false,reduceIte,gcs,List.cons_append,List.nil_append]
  refine Aw_tx hE [3,4,20,21,22] [1,6,15,30,600,601,602,603,604,605,606] fun K hK=>?_
  simp only [go_sem,seval,Int.reduceAdd]
  repeat refine ⟨by first|omega|(and_intros<;>first|omega|exact rows_row _|decide|(simp<;>omega))|fail,?_⟩
  refine hK _ (hN3_0 _ ?_)
  refine Aw_rd fun B3_1 hN3_1 hR3_1 hX3_1=>?_
  refine Aw_st hE [3,4,20,21,22,23] [1,6,15,30,600,601,602,603,604,605,606] fun K hK=>?_
  simp only [go_sem,seval]
  refine hK _ ?_;clear hK K
  refine Aw_sq fun B4_1 hB4_1 hR4_1 hX4_1=>?_
  refine Aw_yes rfl ?_
  refine Aw_skip (hB4_1 _ ?_)
  refine Aw_sq fun B6_1 hB6_1 hR6_1 hX6_1=>?_
  refine Aw_bk fun B7_1 hN7_1 hE7_1 hR7_1 hX7_1=>?_
  have hg_1:(grows [g1,g2])[1]? = some g2.row:=rfl
  have hln_1:=hlg g2 (by simp)
  refine Aw_st hE [3,4,6,20,21,22] [1,6,15,30,600,601,602,603,604,605,606] fun K hK=>?_
  simp only [go_sem,seval,hg_1,Int.reduceAdd]
  repeat refine ⟨by first|omega|(and_intros<;>first|omega|exact rows_row _|decide|(simp<;>omega))|fail,?_⟩
  refine hK _ ?_;clear hK K
  refine Aw_st hE [3,4,20,21,22] [1,6,15,30,600,601,602,603,604,605,606] fun K hK=>?_
  simp only [go_sem,seval]
  refine ⟨⟨by omega,by omega⟩,?_⟩
  refine hK _ ?_;clear hK K
  refine Aw_tx hE [3,4,20,21,22] [1,6,15,30,600,601,602,603,604,605,606] fun K hK=>?_
  simp only [go_sem,seval]
  refine hK _ (hN7_1 _ (hB6_1 _ ?_))
  refine Aw.leE (Le_E (Le_swb _ 30 602 (by decide) (by decide))) ?_
  simp only [St.swb,swbσ,swbm,AV.swb,AV.swbAll,swp,Nat.reduceEqDiff,if_true,if_false,reduceIte,gcs,List.cons_append,List.nil_append]
  refine Aw_tx hE [3,4,20,21,22] [1,6,15,30,600,601,602,603,604,605,606] fun K hK=>?_
  simp only [go_sem,seval,Int.reduceAdd]
  repeat refine ⟨by first|omega|(and_intros<;>first|omega|exact rows_row _|decide|(simp<;>omega))|fail,?_⟩
  refine hK _ (hN3_1 _ ?_)
  refine Aw_rd fun B3_2 hN3_2 hR3_2 hX3_2=>?_
  refine Aw_st hE [3,4,20,21,22,23] [1,6,15,30,600,601,602,603,604,605,606] fun K hK=>?_
  simp only [go_sem,seval]
  refine hK _ ?_;clear hK K
  refine Aw_sq fun B4_2 hB4_2 hR4_2 hX4_2=>?_
  refine Aw_no rfl ?_
  refine Aw_exit (hX4_2 _ _ (hX3_2 _ _ (hE2 _ (hB1 _ ?_))))
  refine Aw_st hE [2] [1,6,15,30,600,601,602,603,604,605,606] fun K hK=>?_
  simp only [go_sem,seval]
  refine hK _ ?_
  refine Aw.leE (Le_E (Le_ks [2] [600,601,602])) ?_
  refine Aw_ret (hQ _ ?_)
  simp only [go_sem,seval]
  exact hpost _ rfl
 ·refine Aw_st hE [3,4,20,21,22] [1,6,15,30,600,601,602,603,604,605,606] fun K hK=>?_
  simp only [go_sem,seval]
  refine hK _ ?_;clear hK K
  refine Aw_bk fun B2 hN2 hE2 hR2 hX2=>?_
  refine Aw_unr 4 ?_
  refine Aw_rd fun B3_0 hN3_0 hR3_0 hX3_0=>?_
  refine Aw_st hE [3,4,20,21,22,23] [1,6,15,30,600,601,602,603,604,605,606] fun K hK=>?_
  simp only [go_sem,seval]
  refine hK _ ?_;clear hK K
  refine Aw_sq fun B4_0 hB4_0 hR4_0 hX4_0=>?_
  refine Aw_yes rfl ?_
  refine Aw_skip (hB4_0 _ ?_)
  refine Aw_sq fun B6_0 hB6_0 hR6_0 hX6_0=>?_
  refine Aw_bk fun B7_0 hN7_0 hE7_0 hR7_0 hX7_0=>?_
  have hg_0:(grows [g1,g2,g3])[0]? = some g1.row:=rfl
  have hln_0:=hlg g1 (by simp)
  refine Aw_st hE [3,4,6,20,21,22] [1,6,15,30,600,601,602,603,604,605,606] fun K hK=>?_
  simp only [go_sem,seval,hg_0,Int.reduceAdd]
  repeat refine ⟨by first|omega|(and_intros<;>first|omega|exact rows_row _|decide|(simp<;>omega))|fail,?_⟩
  refine hK _ ?_;clear hK K
  refine Aw_st hE [3,4,20,21,22] [1,6,15,30,600,601,602,603,604,605,606] fun K hK=>?_
  simp only [go_sem,seval]
  refine ⟨⟨by omega,by omega⟩,?_⟩
  refine hK _ ?_;clear hK K
  refine Aw_tx hE [3,4,20,21,22] [1,6,15,30,600,601,602,603,604,605,606] fun K hK=>?_
  simp only [go_sem,seval]
  refine hK _ (hN7_0 _ (hB6_0 _ ?_))
  refine Aw.leE (Le_E (Le_swb _ 30 601 (by decide) (by decide))) ?_
  simp only [St.swb,swbσ,swbm,AV.swb,AV.swbAll,swp,Nat.reduceEqDiff,if_true,if_false,reduceIte,gcs,List.cons_append,List.nil_append]
  refine Aw_tx hE [3,4,20,21,22] [1,6,15,30,600,601,602,603,604,605,606] fun K hK=>?_
  simp only [go_sem,seval,Int.reduceAdd]
  repeat refine ⟨by first|omega|(and_intros<;>first|omega|exact rows_row _|decide|(simp<;>omega))|fail,?_⟩
  refine hK _ (hN3_0 _ ?_)
  refine Aw_rd fun B3_1 hN3_1 hR3_1 hX3_1=>?_
  refine Aw_st hE [3,4,20,21,22,23] [1,6,15,30,600,601,602,603,604,605,606] fun K hK=>?_
  simp only [go_sem,seval]
  refine hK _ ?_;clear hK K
  refine Aw_sq fun B4_1 hB4_1 hR4_1 hX4_1=>?_
  refine Aw_yes rfl ?_
  refine Aw_skip (hB4_1 _ ?_)
  refine Aw_sq fun B6_1 hB6_1 hR6_1 hX6_1=>?_
  refine Aw_bk fun B7_1 hN7_1 hE7_1 hR7_1 hX7_1=>?_
  have hg_1:(grows [g1,g2,g3])[1]? = some g2.row:=rfl
  have hln_1:=hlg g2 (by simp)
  refine Aw_st hE [3,4,6,20,21,22] [1,6,15,30,600,601,602,603,604,605,606] fun K hK=>?_
  simp only [go_sem,seval,hg_1,Int.reduceAdd]
  repeat refine ⟨by first|omega|(and_intros<;>first|omega|exact rows_row _|decide|(simp<;>omega))|fail,?_⟩
  refine hK _ ?_;clear hK K
  refine Aw_st hE [3,4,20,21,22] [1,6,15,30,600,601,602,603,604,605,606] fun K hK=>?_
  simp only [go_sem,seval]
  refine ⟨⟨by omega,by omega⟩,?_⟩
  refine hK _ ?_;clear hK K
  refine Aw_tx hE [3,4,20,21,22] [1,6,15,30,600,601,602,603,604,605,606] fun K hK=>?_
  simp only [go_sem,seval]
  refine hK _ (hN7_1 _ (hB6_1 _ ?_))
  refine Aw.leE (Le_E (Le_swb _ 30 602 (by decide) (by decide))) ?_
  simp only [St.swb,swbσ,swbm,AV.swb,AV.swbAll,swp,Nat.reduceEqDiff,if_true,if_false,reduceIte,gcs,List.cons_append,List.nil_append]
  refine Aw_tx hE [3,4,20,21,22] [1,6,15,30,600,601,602,603,604,605,606] fun K hK=>?_
  simp only [go_sem,seval,Int.reduceAdd]
  repeat refine ⟨by first|omega|(and_intros<;>first|omega|exact rows_row _|decide|(simp<;>omega))|fail,?_⟩
  refine hK _ (hN3_1 _ ?_)
  refine Aw_rd fun B3_2 hN3_2 hR3_2 hX3_2=>?_
  refine Aw_st hE [3,4,20,21,22,23] [1,6,15,30,600,601,602,603,604,605,606] fun K hK=>?_
  simp only [go_sem,seval]
  refine hK _ ?_;clear hK K
  refine Aw_sq fun B4_2 hB4_2 hR4_2 hX4_2=>?_
  refine Aw_yes rfl ?_
  refine Aw_skip (hB4_2 _ ?_)
  refine Aw_sq fun B6_2 hB6_2 hR6_2 hX6_2=>?_
  refine Aw_bk fun B7_2 hN7_2 hE7_2 hR7_2 hX7_2=>?_
  have hg_2:(grows [g1,g2,g3])[2]? = some g3.row:=rfl
  have hln_2:=hlg g3 (by simp)
  refine Aw_st hE [3,4,6,20,21,22] [1,6,15,30,600,601,602,603,604,605,606] fun K hK=>?_
  simp only [go_sem,seval,hg_2,Int.reduceAdd]
  repeat refine ⟨by first|omega|(and_intros<;>first|omega|exact rows_row _|decide|(simp<;>omega))|fail,?_⟩
  refine hK _ ?_;clear hK K
  refine Aw_st hE [3,4,20,21,22] [1,6,15,30,600,601,602,603,604,605,606] fun K hK=>?_
  simp only [go_sem,seval]
  refine ⟨⟨by omega,by omega⟩,?_⟩
  refine hK _ ?_;clear hK K
  refine Aw_tx hE [3,4,20,21,22] [1,6,15,30,600,601,602,603,604,605,606] fun K hK=>?_
  simp only [go_sem,seval]
  refine hK _ (hN7_2 _ (hB6_2 _ ?_))
  refine Aw.leE (Le_E (Le_swb _ 30 603 (by decide) (by decide))) ?_
  simp only [St.swb,swbσ,swbm,AV.swb,AV.swbAll,swp,Nat.reduceEqDiff,if_true,if_false,reduceIte,gcs,List.cons_append,List.nil_append]
  refine Aw_tx hE [3,4,20,21,22] [1,6,15,30,600,601,602,603,604,605,606] fun K hK=>?_
  simp only [go_sem,seval,Int.reduceAdd]
  repeat refine ⟨by first|omega|(and_intros<;>first|omega|exact rows_row _|decide|(simp<;>omega))|fail,?_⟩
  refine hK _ (hN3_2 _ ?_)
  refine Aw_rd fun B3_3 hN3_3 hR3_3 hX3_3=>?_
  refine Aw_st hE [3,4,20,21,22,23] [1,6,15,30,600,601,602,603,604,605,606] fun K hK=>?_
  simp only [go_sem,seval]
  refine hK _ ?_;clear hK K
  refine Aw_sq fun B4_3 hB4_3 hR4_3 hX4_3=>?_
  refine Aw_no rfl ?_
  refine Aw_exit (hX4_3 _ _ (hX3_3 _ _ (hE2 _ (hB1 _ ?_))))
  refine Aw_st hE [2] [1,6,15,30,600,601,602,603,604,605,606] fun K hK=>?_
  simp only [go_sem,seval]
  refine hK _ ?_
  refine Aw.leE (Le_E (Le_ks [2] [600,601,602,603])) ?_
  refine Aw_ret (hQ _ ?_)
  simp only [go_sem,seval]
  exact hpost _ rfl
 ·refine Aw_st hE [3,4,20,21,22] [1,6,15,30,600,601,602,603,604,605,606] fun K hK=>?_
  simp only [go_sem,seval]
  refine hK _ ?_;clear hK K
  refine Aw_bk fun B2 hN2 hE2 hR2 hX2=>?_
  refine Aw_unr 5 ?_
  refine Aw_rd fun B3_0 hN3_0 hR3_0 hX3_0=>?_
  refine Aw_st hE [3,4,20,21,22,23] [1,6,15,30,600,601,602,603,604,605,606] fun K hK=>?_
  simp only [go_sem,seval]
  refine hK _ ?_;clear hK K
  refine Aw_sq fun B4_0 hB4_0 hR4_0 hX4_0=>?_
  refine Aw_yes rfl ?_
  refine Aw_skip (hB4_0 _ ?_)
  refine Aw_sq fun B6_0 hB6_0 hR6_0 hX6_0=>?_
  refine Aw_bk fun B7_0 hN7_0 hE7_0 hR7_0 hX7_0=>?_
  have hg_0:(grows [g1,g2,g3,g4])[0]? = some g1.row:=rfl
  have hln_0:=hlg g1 (by simp)
  refine Aw_st hE [3,4,6,20,21,22] [1,6,15,30,600,601,602,603,604,605,606] fun K hK=>?_
  simp only [go_sem,seval,hg_0,Int.reduceAdd]
  repeat refine ⟨by first|omega|(and_intros<;>first|omega|exact rows_row _|decide|(simp<;>omega))|fail,?_⟩
  refine hK _ ?_;clear hK K
  refine Aw_st hE [3,4,20,21,22] [1,6,15,30,600,601,602,603,604,605,606] fun K hK=>?_
  simp only [go_sem,seval]
  refine ⟨⟨by omega,by omega⟩,?_⟩
  refine hK _ ?_;clear hK K
  refine Aw_tx hE [3,4,20,21,22] [1,6,15,30,600,601,602,603,604,605,606] fun K hK=>?_
  simp only [go_sem,seval]
  refine hK _ (hN7_0 _ (hB6_0 _ ?_))
  refine Aw.leE (Le_E (Le_swb _ 30 601 (by decide) (by decide))) ?_
  simp only [St.swb,swbσ,swbm,AV.swb,AV.swbAll,swp,Nat.reduceEqDiff,if_true,if_false,reduceIte,gcs,List.cons_append,List.nil_append]
  refine Aw_tx hE [3,4,20,21,22] [1,6,15,30,600,601,602,603,604,605,606] fun K hK=>?_
  simp only [go_sem,seval,Int.reduceAdd]
  repeat refine ⟨by first|omega|(and_intros<;>first|omega|exact rows_row _|decide|(simp<;>omega))|fail,?_⟩
  refine hK _ (hN3_0 _ ?_)
  refine Aw_rd fun B3_1 hN3_1 hR3_1 hX3_1=>?_
  refine Aw_st hE [3,4,20,21,22,23] [1,6,15,30,600,601,602,603,604,605,606] fun K hK=>?_
  simp only [go_sem,seval]
  refine hK _ ?_;clear hK K
  refine Aw_sq fun B4_1 hB4_1 hR4_1 hX4_1=>?_
  refine Aw_yes rfl ?_
  refine Aw_skip (hB4_1 _ ?_)
  refine Aw_sq fun B6_1 hB6_1 hR6_1 hX6_1=>?_
  refine Aw_bk fun B7_1 hN7_1 hE7_1 hR7_1 hX7_1=>?_
  have hg_1:(grows [g1,g2,g3,g4])[1]? = some g2.row:=rfl
  have hln_1:=hlg g2 (by simp)
  refine Aw_st hE [3,4,6,20,21,22] [1,6,15,30,600,601,602,603,604,605,606] fun K hK=>?_
  simp only [go_sem,seval,hg_1,Int.reduceAdd]
  repeat refine ⟨by first|omega|(and_intros<;>first|omega|exact rows_row _|decide|(simp<;>omega))|fail,?_⟩
  refine hK _ ?_;clear hK K
  refine Aw_st hE [3,4,20,21,22] [1,6,15,30,600,601,602,603,604,605,606] fun K hK=>?_
  simp only [go_sem,seval]
  refine ⟨⟨by omega,by omega⟩,?_⟩
  refine hK _ ?_;clear hK K
  refine Aw_tx hE [3,4,20,21,22] [1,6,15,30,600,601,602,603,604,605,606] fun K hK=>?_
  simp only [go_sem,seval]
  refine hK _ (hN7_1 _ (hB6_1 _ ?_))
  refine Aw.leE (Le_E (Le_swb _ 30 602 (by decide) (by decide))) ?_
  simp only [St.swb,swbσ,swbm,AV.swb,AV.swbAll,swp,Nat.reduceEqDiff,if_true,if_false,reduceIte,gcs,List.cons_append,List.nil_append]
  refine Aw_tx hE [3,4,20,21,22] [1,6,15,30,600,601,602,603,604,605,606] fun K hK=>?_
  simp only [go_sem,seval,Int.reduceAdd]
  repeat refine ⟨by first|omega|(and_intros<;>first|omega|exact rows_row _|decide|(simp<;>omega))|fail,?_⟩
  refine hK _ (hN3_1 _ ?_)
  refine Aw_rd fun B3_2 hN3_2 hR3_2 hX3_2=>?_
  refine Aw_st hE [3,4,20,21,22,23] [1,6,15,30,600,601,602,603,604,605,606] fun K hK=>?_
  simp only [go_sem,seval]
  refine hK _ ?_;clear hK K
  refine Aw_sq fun B4_2 hB4_2 hR4_2 hX4_2=>?_
  refine Aw_yes rfl ?_
  refine Aw_skip (hB4_2 _ ?_)
  refine Aw_sq fun B6_2 hB6_2 hR6_2 hX6_2=>?_
  refine Aw_bk fun B7_2 hN7_2 hE7_2 hR7_2 hX7_2=>?_
  have hg_2:(grows [g1,g2,g3,g4])[2]? = some g3.row:=rfl
  have hln_2:=hlg g3 (by simp)
  refine Aw_st hE [3,4,6,20,21,22] [1,6,15,30,600,601,602,603,604,605,606] fun K hK=>?_
  simp only [go_sem,seval,hg_2,Int.reduceAdd]
  repeat refine ⟨by first|omega|(and_intros<;>first|omega|exact rows_row _|decide|(simp<;>omega))|fail,?_⟩
  refine hK _ ?_;clear hK K
  refine Aw_st hE [3,4,20,21,22] [1,6,15,30,600,601,602,603,604,605,606] fun K hK=>?_
  simp only [go_sem,seval]
  refine ⟨⟨by omega,by omega⟩,?_⟩
  refine hK _ ?_;clear hK K
  refine Aw_tx hE [3,4,20,21,22] [1,6,15,30,600,601,602,603,604,605,606] fun K hK=>?_
  simp only [go_sem,seval]
  refine hK _ (hN7_2 _ (hB6_2 _ ?_))
  refine Aw.leE (Le_E (Le_swb _ 30 603 (by decide) (by decide))) ?_
  simp only [St.swb,swbσ,swbm,AV.swb,AV.swbAll,swp,Nat.reduceEqDiff,if_true,if_false,reduceIte,gcs,List.cons_append,List.nil_append]
  refine Aw_tx hE [3,4,20,21,22] [1,6,15,30,600,601,602,603,604,605,606] fun K hK=>?_
  simp only [go_sem,seval,Int.reduceAdd]
  repeat refine ⟨by first|omega|(and_intros<;>first|omega|exact rows_row _|decide|(simp<;>omega))|fail,?_⟩
  refine hK _ (hN3_2 _ ?_)
  refine Aw_rd fun B3_3 hN3_3 hR3_3 hX3_3=>?_
  refine Aw_st hE [3,4,20,21,22,23] [1,6,15,30,600,601,602,603,604,605,606] fun K hK=>?_
  simp only [go_sem,seval]
  refine hK _ ?_;clear hK K
  refine Aw_sq fun B4_3 hB4_3 hR4_3 hX4_3=>?_
  refine Aw_yes rfl ?_
  refine Aw_skip (hB4_3 _ ?_)
  refine Aw_sq fun B6_3 hB6_3 hR6_3 hX6_3=>?_
  refine Aw_bk fun B7_3 hN7_3 hE7_3 hR7_3 hX7_3=>?_
  have hg_3:(grows [g1,g2,g3,g4])[3]? = some g4.row:=rfl
  have hln_3:=hlg g4 (by simp)
  refine Aw_st hE [3,4,6,20,21,22] [1,6,15,30,600,601,602,603,604,605,606] fun K hK=>?_
  simp only [go_sem,seval,hg_3,Int.reduceAdd]
  repeat refine ⟨by first|omega|(and_intros<;>first|omega|exact rows_row _|decide|(simp<;>omega))|fail,?_⟩
  refine hK _ ?_;clear hK K
  refine Aw_st hE [3,4,20,21,22] [1,6,15,30,600,601,602,603,604,605,606] fun K hK=>?_
  simp only [go_sem,seval]
  refine ⟨⟨by omega,by omega⟩,?_⟩
  refine hK _ ?_;clear hK K
  refine Aw_tx hE [3,4,20,21,22] [1,6,15,30,600,601,602,603,604,605,606] fun K hK=>?_
  simp only [go_sem,seval]
  refine hK _ (hN7_3 _ (hB6_3 _ ?_))
  refine Aw.leE (Le_E (Le_swb _ 30 604 (by decide) (by decide))) ?_
  simp only [St.swb,swbσ,swbm,AV.swb,AV.swbAll,swp,Nat.reduceEqDiff,if_true,if_false,reduceIte,gcs,List.cons_append,List.nil_append]
  refine Aw_tx hE [3,4,20,21,22] [1,6,15,30,600,601,602,603,604,605,606] fun K hK=>?_
  simp only [go_sem,seval,Int.reduceAdd]
  repeat refine ⟨by first|omega|(and_intros<;>first|omega|exact rows_row _|decide|(simp<;>omega))|fail,?_⟩
  refine hK _ (hN3_3 _ ?_)
  refine Aw_rd fun B3_4 hN3_4 hR3_4 hX3_4=>?_
  refine Aw_st hE [3,4,20,21,22,23] [1,6,15,30,600,601,602,603,604,605,606] fun K hK=>?_
  simp only [go_sem,seval]
  refine hK _ ?_;clear hK K
  refine Aw_sq fun B4_4 hB4_4 hR4_4 hX4_4=>?_
  refine Aw_no rfl ?_
  refine Aw_exit (hX4_4 _ _ (hX3_4 _ _ (hE2 _ (hB1 _ ?_))))
  refine Aw_st hE [2] [1,6,15,30,600,601,602,603,604,605,606] fun K hK=>?_
  simp only [go_sem,seval]
  refine hK _ ?_
  refine Aw.leE (Le_E (Le_ks [2] [600,601,602,603,604])) ?_
  refine Aw_ret (hQ _ ?_)
  simp only [go_sem,seval]
  exact hpost _ rfl
 ·refine Aw_st hE [3,4,20,21,22] [1,6,15,30,600,601,602,603,604,605,606] fun K hK=>?_
  simp only [go_sem,seval]
  refine hK _ ?_;clear hK K
  refine Aw_bk fun B2 hN2 hE2 hR2 hX2=>?_
  refine Aw_unr 6 ?_
  refine Aw_rd fun B3_0 hN3_0 hR3_0 hX3_0=>?_
  refine Aw_st hE [3,4,20,21,22,23] [1,6,15,30,600,601,602,603,604,605,606] fun K hK=>?_
  simp only [go_sem,seval]
  refine hK _ ?_;clear hK K
  refine Aw_sq fun B4_0 hB4_0 hR4_0 hX4_0=>?_
  refine Aw_yes rfl ?_
  refine Aw_skip (hB4_0 _ ?_)
  refine Aw_sq fun B6_0 hB6_0 hR6_0 hX6_0=>?_
  refine Aw_bk fun B7_0 hN7_0 hE7_0 hR7_0 hX7_0=>?_
  have hg_0:(grows [g1,g2,g3,g4,g5])[0]? = some g1.row:=rfl
  have hln_0:=hlg g1 (by simp)
  refine Aw_st hE [3,4,6,20,21,22] [1,6,15,30,600,601,602,603,604,605,606] fun K hK=>?_
  simp only [go_sem,seval,hg_0,Int.reduceAdd]
  repeat refine ⟨by first|omega|(and_intros<;>first|omega|exact rows_row _|decide|(simp<;>omega))|fail,?_⟩
  refine hK _ ?_;clear hK K
  refine Aw_st hE [3,4,20,21,22] [1,6,15,30,600,601,602,603,604,605,606] fun K hK=>?_
  simp only [go_sem,seval]
  refine ⟨⟨by omega,by omega⟩,?_⟩
  refine hK _ ?_;clear hK K
  refine Aw_tx hE [3,4,20,21,22] [1,6,15,30,600,601,602,603,604,605,606] fun K hK=>?_
  simp only [go_sem,seval]
  refine hK _ (hN7_0 _ (hB6_0 _ ?_))
  refine Aw.leE (Le_E (Le_swb _ 30 601 (by decide) (by decide))) ?_
  simp only [St.swb,swbσ,swbm,AV.swb,AV.swbAll,swp,Nat.reduceEqDiff,if_true,if_false,reduceIte,gcs,List.cons_append,List.nil_append]
  refine Aw_tx hE [3,4,20,21,22] [1,6,15,30,600,601,602,603,604,605,606] fun K hK=>?_
  simp only [go_sem,seval,Int.reduceAdd]
  repeat refine ⟨by first|omega|(and_intros<;>first|omega|exact rows_row _|decide|(simp<;>omega))|fail,?_⟩
  refine hK _ (hN3_0 _ ?_)
  refine Aw_rd fun B3_1 hN3_1 hR3_1 hX3_1=>?_
  refine Aw_st hE [3,4,20,21,22,23] [1,6,15,30,600,601,602,603,604,605,606] fun K hK=>?_
  simp only [go_sem,seval]
  refine hK _ ?_;clear hK K
  refine Aw_sq fun B4_1 hB4_1 hR4_1 hX4_1=>?_
  refine Aw_yes rfl ?_
  refine Aw_skip (hB4_1 _ ?_)
  refine Aw_sq fun B6_1 hB6_1 hR6_1 hX6_1=>?_
  refine Aw_bk fun B7_1 hN7_1 hE7_1 hR7_1 hX7_1=>?_
  have hg_1:(grows [g1,g2,g3,g4,g5])[1]? = some g2.row:=rfl
  have hln_1:=hlg g2 (by simp)
  refine Aw_st hE [3,4,6,20,21,22] [1,6,15,30,600,601,602,603,604,605,606] fun K hK=>?_
  simp only [go_sem,seval,hg_1,Int.reduceAdd]
  repeat refine ⟨by first|omega|(and_intros<;>first|omega|exact rows_row _|decide|(simp<;>omega))|fail,?_⟩
  refine hK _ ?_;clear hK K
  refine Aw_st hE [3,4,20,21,22] [1,6,15,30,600,601,602,603,604,605,606] fun K hK=>?_
  simp only [go_sem,seval]
  refine ⟨⟨by omega,by omega⟩,?_⟩
  refine hK _ ?_;clear hK K
  refine Aw_tx hE [3,4,20,21,22] [1,6,15,30,600,601,602,603,604,605,606] fun K hK=>?_
  simp only [go_sem,seval]
  refine hK _ (hN7_1 _ (hB6_1 _ ?_))
  refine Aw.leE (Le_E (Le_swb _ 30 602 (by decide) (by decide))) ?_
  simp only [St.swb,swbσ,swbm,AV.swb,AV.swbAll,swp,Nat.reduceEqDiff,if_true,if_false,reduceIte,gcs,List.cons_append,List.nil_append]
  refine Aw_tx hE [3,4,20,21,22] [1,6,15,30,600,601,602,603,604,605,606] fun K hK=>?_
  simp only [go_sem,seval,Int.reduceAdd]
  repeat refine ⟨by first|omega|(and_intros<;>first|omega|exact rows_row _|decide|(simp<;>omega))|fail,?_⟩
  refine hK _ (hN3_1 _ ?_)
  refine Aw_rd fun B3_2 hN3_2 hR3_2 hX3_2=>?_
  refine Aw_st hE [3,4,20,21,22,23] [1,6,15,30,600,601,602,603,604,605,606] fun K hK=>?_
  simp only [go_sem,seval]
  refine hK _ ?_;clear hK K
  refine Aw_sq fun B4_2 hB4_2 hR4_2 hX4_2=>?_
  refine Aw_yes rfl ?_
  refine Aw_skip (hB4_2 _ ?_)
  refine Aw_sq fun B6_2 hB6_2 hR6_2 hX6_2=>?_
  refine Aw_bk fun B7_2 hN7_2 hE7_2 hR7_2 hX7_2=>?_
  have hg_2:(grows [g1,g2,g3,g4,g5])[2]? = some g3.row:=rfl
  have hln_2:=hlg g3 (by simp)
  refine Aw_st hE [3,4,6,20,21,22] [1,6,15,30,600,601,602,603,604,605,606] fun K hK=>?_
  simp only [go_sem,seval,hg_2,Int.reduceAdd]
  repeat refine ⟨by first|omega|(and_intros<;>first|omega|exact rows_row _|decide|(simp<;>omega))|fail,?_⟩
  refine hK _ ?_;clear hK K
  refine Aw_st hE [3,4,20,21,22] [1,6,15,30,600,601,602,603,604,605,606] fun K hK=>?_
  simp only [go_sem,seval]
  refine ⟨⟨by omega,by omega⟩,?_⟩
  refine hK _ ?_;clear hK K
  refine Aw_tx hE [3,4,20,21,22] [1,6,15,30,600,601,602,603,604,605,606] fun K hK=>?_
  simp only [go_sem,seval]
  refine hK _ (hN7_2 _ (hB6_2 _ ?_))
  refine Aw.leE (Le_E (Le_swb _ 30 603 (by decide) (by decide))) ?_
  simp only [St.swb,swbσ,swbm,AV.swb,AV.swbAll,swp,Nat.reduceEqDiff,if_true,if_false,reduceIte,gcs,List.cons_append,List.nil_append]
  refine Aw_tx hE [3,4,20,21,22] [1,6,15,30,600,601,602,603,604,605,606] fun K hK=>?_
  simp only [go_sem,seval,Int.reduceAdd]
  repeat refine ⟨by first|omega|(and_intros<;>first|omega|exact rows_row _|decide|(simp<;>omega))|fail,?_⟩
  refine hK _ (hN3_2 _ ?_)
  refine Aw_rd fun B3_3 hN3_3 hR3_3 hX3_3=>?_
  refine Aw_st hE [3,4,20,21,22,23] [1,6,15,30,600,601,602,603,604,605,606] fun K hK=>?_
  simp only [go_sem,seval]
  refine hK _ ?_;clear hK K
  refine Aw_sq fun B4_3 hB4_3 hR4_3 hX4_3=>?_
  refine Aw_yes rfl ?_
  refine Aw_skip (hB4_3 _ ?_)
  refine Aw_sq fun B6_3 hB6_3 hR6_3 hX6_3=>?_
  refine Aw_bk fun B7_3 hN7_3 hE7_3 hR7_3 hX7_3=>?_
  have hg_3:(grows [g1,g2,g3,g4,g5])[3]? = some g4.row:=rfl
  have hln_3:=hlg g4 (by simp)
  refine Aw_st hE [3,4,6,20,21,22] [1,6,15,30,600,601,602,603,604,605,606] fun K hK=>?_
  simp only [go_sem,seval,hg_3,Int.reduceAdd]
  repeat refine ⟨by first|omega|(and_intros<;>first|omega|exact rows_row _|decide|(simp<;>omega))|fail,?_⟩
  refine hK _ ?_;clear hK K
  refine Aw_st hE [3,4,20,21,22] [1,6,15,30,600,601,602,603,604,605,606] fun K hK=>?_
  simp only [go_sem,seval]
  refine ⟨⟨by omega,by omega⟩,?_⟩
  refine hK _ ?_;clear hK K
  refine Aw_tx hE [3,4,20,21,22] [1,6,15,30,600,601,602,603,604,605,606] fun K hK=>?_
  simp only [go_sem,seval]
  refine hK _ (hN7_3 _ (hB6_3 _ ?_))
  refine Aw.leE (Le_E (Le_swb _ 30 604 (by decide) (by decide))) ?_
  simp only [St.swb,swbσ,swbm,AV.swb,AV.swbAll,swp,Nat.reduceEqDiff,if_true,if_false,reduceIte,gcs,List.cons_append,List.nil_append]
  refine Aw_tx hE [3,4,20,21,22] [1,6,15,30,600,601,602,603,604,605,606] fun K hK=>?_
  simp only [go_sem,seval,Int.reduceAdd]
  repeat refine ⟨by first|omega|(and_intros<;>first|omega|exact rows_row _|decide|(simp<;>omega))|fail,?_⟩
  refine hK _ (hN3_3 _ ?_)
  refine Aw_rd fun B3_4 hN3_4 hR3_4 hX3_4=>?_
  refine Aw_st hE [3,4,20,21,22,23] [1,6,15,30,600,601,602,603,604,605,606] fun K hK=>?_
  simp only [go_sem,seval]
  refine hK _ ?_;clear hK K
  refine Aw_sq fun B4_4 hB4_4 hR4_4 hX4_4=>?_
  refine Aw_yes rfl ?_
  refine Aw_skip (hB4_4 _ ?_)
  refine Aw_sq fun B6_4 hB6_4 hR6_4 hX6_4=>?_
  refine Aw_bk fun B7_4 hN7_4 hE7_4 hR7_4 hX7_4=>?_
  have hg_4:(grows [g1,g2,g3,g4,g5])[4]? = some g5.row:=rfl
  have hln_4:=hlg g5 (by simp)
  refine Aw_st hE [3,4,6,20,21,22] [1,6,15,30,600,601,602,603,604,605,606] fun K hK=>?_
  simp only [go_sem,seval,hg_4,Int.reduceAdd]
  repeat refine ⟨by first|omega|(and_intros<;>first|omega|exact rows_row _|decide|(simp<;>omega))|fail,?_⟩
  refine hK _ ?_;clear hK K
  refine Aw_st hE [3,4,20,21,22] [1,6,15,30,600,601,602,603,604,605,606] fun K hK=>?_
  simp only [go_sem,seval]
  refine ⟨⟨by omega,by omega⟩,?_⟩
  refine hK _ ?_;clear hK K
  refine Aw_tx hE [3,4,20,21,22] [1,6,15,30,600,601,602,603,604,605,606] fun K hK=>?_
  simp only [go_sem,seval]
  refine hK _ (hN7_4 _ (hB6_4 _ ?_))
  refine Aw.leE (Le_E (Le_swb _ 30 605 (by decide) (by decide))) ?_
  simp only [St.swb,swbσ,swbm,AV.swb,AV.swbAll,swp,Nat.reduceEqDiff,if_true,if_false,reduceIte,gcs,List.cons_append,List.nil_append]
  refine Aw_tx hE [3,4,20,21,22] [1,6,15,30,600,601,602,603,604,605,606] fun K hK=>?_
  simp only [go_sem,seval,Int.reduceAdd]
  repeat refine ⟨by first|omega|(and_intros<;>first|omega|exact rows_row _|decide|(simp<;>omega))|fail,?_⟩
  refine hK _ (hN3_4 _ ?_)
  refine Aw_rd fun B3_5 hN3_5 hR3_5 hX3_5=>?_
  refine Aw_st hE [3,4,20,21,22,23] [1,6,15,30,600,601,602,603,604,605,606] fun K hK=>?_
  simp only [go_sem,seval]
  refine hK _ ?_;clear hK K
  refine Aw_sq fun B4_5 hB4_5 hR4_5 hX4_5=>?_
  refine Aw_no rfl ?_
  refine Aw_exit (hX4_5 _ _ (hX3_5 _ _ (hE2 _ (hB1 _ ?_))))
  refine Aw_st hE [2] [1,6,15,30,600,601,602,603,604,605,606] fun K hK=>?_
  simp only [go_sem,seval]
  refine hK _ ?_
  refine Aw.leE (Le_E (Le_ks [2] [600,601,602,603,604,605])) ?_
  refine Aw_ret (hQ _ ?_)
  simp only [go_sem,seval]
  exact hpost _ rfl
 ·refine Aw_st hE [3,4,20,21,22] [1,6,15,30,600,601,602,603,604,605,606] fun K hK=>?_
  simp only [go_sem,seval]
  refine hK _ ?_;clear hK K
  refine Aw_bk fun B2 hN2 hE2 hR2 hX2=>?_
  refine Aw_unr 7 ?_
  refine Aw_rd fun B3_0 hN3_0 hR3_0 hX3_0=>?_
  refine Aw_st hE [3,4,20,21,22,23] [1,6,15,30,600,601,602,603,604,605,606] fun K hK=>?_
  simp only [go_sem,seval]
  refine hK _ ?_;clear hK K
  refine Aw_sq fun B4_0 hB4_0 hR4_0 hX4_0=>?_
  refine Aw_yes rfl ?_
  refine Aw_skip (hB4_0 _ ?_)
  refine Aw_sq fun B6_0 hB6_0 hR6_0 hX6_0=>?_
  refine Aw_bk fun B7_0 hN7_0 hE7_0 hR7_0 hX7_0=>?_
  have hg_0:(grows [g1,g2,g3,g4,g5,g6])[0]? = some g1.row:=rfl
  have hln_0:=hlg g1 (by simp)
  refine Aw_st hE [3,4,6,20,21,22] [1,6,15,30,600,601,602,603,604,605,606] fun K hK=>?_
  simp only [go_sem,seval,hg_0,Int.reduceAdd]
  repeat refine ⟨by first|omega|(and_intros<;>first|omega|exact rows_row _|decide|(simp<;>omega))|fail,?_⟩
  refine hK _ ?_;clear hK K
  refine Aw_st hE [3,4,20,21,22] [1,6,15,30,600,601,602,603,604,605,606] fun K hK=>?_
  simp only [go_sem,seval]
  refine ⟨⟨by omega,by omega⟩,?_⟩
  refine hK _ ?_;clear hK K
  refine Aw_tx hE [3,4,20,21,22] [1,6,15,30,600,601,602,603,604,605,606] fun K hK=>?_
  simp only [go_sem,seval]
  refine hK _ (hN7_0 _ (hB6_0 _ ?_))
  refine Aw.leE (Le_E (Le_swb _ 30 601 (by decide) (by decide))) ?_
  simp only [St.swb,swbσ,swbm,AV.swb,AV.swbAll,swp,Nat.reduceEqDiff,if_true,if_false,reduceIte,gcs,List.cons_append,List.nil_append]
  refine Aw_tx hE [3,4,20,21,22] [1,6,15,30,600,601,602,603,604,605,606] fun K hK=>?_
  simp only [go_sem,seval,Int.reduceAdd]
  repeat refine ⟨by first|omega|(and_intros<;>first|omega|exact rows_row _|decide|(simp<;>omega))|fail,?_⟩
  refine hK _ (hN3_0 _ ?_)
  refine Aw_rd fun B3_1 hN3_1 hR3_1 hX3_1=>?_
  refine Aw_st hE [3,4,20,21,22,23] [1,6,15,30,600,601,602,603,604,605,606] fun K hK=>?_
  simp only [go_sem,seval]
  refine hK _ ?_;clear hK K
  refine Aw_sq fun B4_1 hB4_1 hR4_1 hX4_1=>?_
  refine Aw_yes rfl ?_
  refine Aw_skip (hB4_1 _ ?_)
  refine Aw_sq fun B6_1 hB6_1 hR6_1 hX6_1=>?_
  refine Aw_bk fun B7_1 hN7_1 hE7_1 hR7_1 hX7_1=>?_
  have hg_1:(grows [g1,g2,g3,g4,g5,g6])[1]? = some g2.row:=rfl
  have hln_1:=hlg g2 (by simp)
  refine Aw_st hE [3,4,6,20,21,22] [1,6,15,30,600,601,602,603,604,605,606] fun K hK=>?_
  simp only [go_sem,seval,hg_1,Int.reduceAdd]
  repeat refine ⟨by first|omega|(and_intros<;>first|omega|exact rows_row _|decide|(simp<;>omega))|fail,?_⟩
  refine hK _ ?_;clear hK K
  refine Aw_st hE [3,4,20,21,22] [1,6,15,30,600,601,602,603,604,605,606] fun K hK=>?_
  simp only [go_sem,seval]
  refine ⟨⟨by omega,by omega⟩,?_⟩
  refine hK _ ?_;clear hK K
  refine Aw_tx hE [3,4,20,21,22] [1,6,15,30,600,601,602,603,604,605,606] fun K hK=>?_
  simp only [go_sem,seval]
  refine hK _ (hN7_1 _ (hB6_1 _ ?_))
  refine Aw.leE (Le_E (Le_swb _ 30 602 (by decide) (by decide))) ?_
  simp only [St.swb,swbσ,swbm,AV.swb,AV.swbAll,swp,Nat.reduceEqDiff,if_true,if_false,reduceIte,gcs,List.cons_append,List.nil_append]
  refine Aw_tx hE [3,4,20,21,22] [1,6,15,30,600,601,602,603,604,605,606] fun K hK=>?_
  simp only [go_sem,seval,Int.reduceAdd]
  repeat refine ⟨by first|omega|(and_intros<;>first|omega|exact rows_row _|decide|(simp<;>omega))|fail,?_⟩
  refine hK _ (hN3_1 _ ?_)
  refine Aw_rd fun B3_2 hN3_2 hR3_2 hX3_2=>?_
  refine Aw_st hE [3,4,20,21,22,23] [1,6,15,30,600,601,602,603,604,605,606] fun K hK=>?_
  simp only [go_sem,seval]
  refine hK _ ?_;clear hK K
  refine Aw_sq fun B4_2 hB4_2 hR4_2 hX4_2=>?_
  refine Aw_yes rfl ?_
  refine Aw_skip (hB4_2 _ ?_)
  refine Aw_sq fun B6_2 hB6_2 hR6_2 hX6_2=>?_
  refine Aw_bk fun B7_2 hN7_2 hE7_2 hR7_2 hX7_2=>?_
  have hg_2:(grows [g1,g2,g3,g4,g5,g6])[2]? = some g3.row:=rfl
  have hln_2:=hlg g3 (by simp)
  refine Aw_st hE [3,4,6,20,21,22] [1,6,15,30,600,601,602,603,604,605,606] fun K hK=>?_
  simp only [go_sem,seval,hg_2,Int.reduceAdd]
  repeat refine ⟨by first|omega|(and_intros<;>first|omega|exact rows_row _|decide|(simp<;>omega))|fail,?_⟩
  refine hK _ ?_;clear hK K
  refine Aw_st hE [3,4,20,21,22] [1,6,15,30,600,601,602,603,604,605,606] fun K hK=>?_
  simp only [go_sem,seval]
  refine ⟨⟨by omega,by omega⟩,?_⟩
  refine hK _ ?_;clear hK K
  refine Aw_tx hE [3,4,20,21,22] [1,6,15,30,600,601,602,603,604,605,606] fun K hK=>?_
  simp only [go_sem,seval]
  refine hK _ (hN7_2 _ (hB6_2 _ ?_))
  refine Aw.leE (Le_E (Le_swb _ 30 603 (by decide) (by decide))) ?_
  simp only [St.swb,swbσ,swbm,AV.swb,AV.swbAll,swp,Nat.reduceEqDiff,if_true,if_false,reduceIte,gcs,List.cons_append,List.nil_append]
  refine Aw_tx hE [3,4,20,21,22] [1,6,15,30,600,601,602,603,604,605,606] fun K hK=>?_
  simp only [go_sem,seval,Int.reduceAdd]
  repeat refine ⟨by first|omega|(and_intros<;>first|omega|exact rows_row _|decide|(simp<;>omega))|fail,?_⟩
  refine hK _ (hN3_2 _ ?_)
  refine Aw_rd fun B3_3 hN3_3 hR3_3 hX3_3=>?_
  refine Aw_st hE [3,4,20,21,22,23] [1,6,15,30,600,601,602,603,604,605,606] fun K hK=>?_
  simp only [go_sem,seval]
  refine hK _ ?_;clear hK K
  refine Aw_sq fun B4_3 hB4_3 hR4_3 hX4_3=>?_
  refine Aw_yes rfl ?_
  refine Aw_skip (hB4_3 _ ?_)
  refine Aw_sq fun B6_3 hB6_3 hR6_3 hX6_3=>?_
  refine Aw_bk fun B7_3 hN7_3 hE7_3 hR7_3 hX7_3=>?_
  have hg_3:(grows [g1,g2,g3,g4,g5,g6])[3]? = some g4.row:=rfl
  have hln_3:=hlg g4 (by simp)
  refine Aw_st hE [3,4,6,20,21,22] [1,6,15,30,600,601,602,603,604,605,606] fun K hK=>?_
  simp only [go_sem,seval,hg_3,Int.reduceAdd]
  repeat refine ⟨by first|omega|(and_intros<;>first|omega|exact rows_row _|decide|(simp<;>omega))|fail,?_⟩
  refine hK _ ?_;clear hK K
  refine Aw_st hE [3,4,20,21,22] [1,6,15,30,600,601,602,603,604,605,606] fun K hK=>?_
  simp only [go_sem,seval]
  refine ⟨⟨by omega,by omega⟩,?_⟩
  refine hK _ ?_;clear hK K
  refine Aw_tx hE [3,4,20,21,22] [1,6,15,30,600,601,602,603,604,605,606] fun K hK=>?_
  simp only [go_sem,seval]
  refine hK _ (hN7_3 _ (hB6_3 _ ?_))
  refine Aw.leE (Le_E (Le_swb _ 30 604 (by decide) (by decide))) ?_
  simp only [St.swb,swbσ,swbm,AV.swb,AV.swbAll,swp,Nat.reduceEqDiff,if_true,if_false,reduceIte,gcs,List.cons_append,List.nil_append]
  refine Aw_tx hE [3,4,20,21,22] [1,6,15,30,600,601,602,603,604,605,606] fun K hK=>?_
  simp only [go_sem,seval,Int.reduceAdd]
  repeat refine ⟨by first|omega|(and_intros<;>first|omega|exact rows_row _|decide|(simp<;>omega))|fail,?_⟩
  refine hK _ (hN3_3 _ ?_)
  refine Aw_rd fun B3_4 hN3_4 hR3_4 hX3_4=>?_
  refine Aw_st hE [3,4,20,21,22,23] [1,6,15,30,600,601,602,603,604,605,606] fun K hK=>?_
  simp only [go_sem,seval]
  refine hK _ ?_;clear hK K
  refine Aw_sq fun B4_4 hB4_4 hR4_4 hX4_4=>?_
  refine Aw_yes rfl ?_
  refine Aw_skip (hB4_4 _ ?_)
  refine Aw_sq fun B6_4 hB6_4 hR6_4 hX6_4=>?_
  refine Aw_bk fun B7_4 hN7_4 hE7_4 hR7_4 hX7_4=>?_
  have hg_4:(grows [g1,g2,g3,g4,g5,g6])[4]? = some g5.row:=rfl
  have hln_4:=hlg g5 (by simp)
  refine Aw_st hE [3,4,6,20,21,22] [1,6,15,30,600,601,602,603,604,605,606] fun K hK=>?_
  simp only [go_sem,seval,hg_4,Int.reduceAdd]
  repeat refine ⟨by first|omega|(and_intros<;>first|omega|exact rows_row _|decide|(simp<;>omega))|fail,?_⟩
  refine hK _ ?_;clear hK K
  refine Aw_st hE [3,4,20,21,22] [1,6,15,30,600,601,602,603,604,605,606] fun K hK=>?_
  simp only [go_sem,seval]
  refine ⟨⟨by omega,by omega⟩,?_⟩
  refine hK _ ?_;clear hK K
  refine Aw_tx hE [3,4,20,21,22] [1,6,15,30,600,601,602,603,604,605,606] fun K hK=>?_
  simp only [go_sem,seval]
  refine hK _ (hN7_4 _ (hB6_4 _ ?_))
  refine Aw.leE (Le_E (Le_swb _ 30 605 (by decide) (by decide))) ?_
  simp only [St.swb,swbσ,swbm,AV.swb,AV.swbAll,swp,Nat.reduceEqDiff,if_true,if_false,reduceIte,gcs,List.cons_append,List.nil_append]
  refine Aw_tx hE [3,4,20,21,22] [1,6,15,30,600,601,602,603,604,605,606] fun K hK=>?_
  simp only [go_sem,seval,Int.reduceAdd]
  repeat refine ⟨by first|omega|(and_intros<;>first|omega|exact rows_row _|decide|(simp<;>omega))|fail,?_⟩
  refine hK _ (hN3_4 _ ?_)
  refine Aw_rd fun B3_5 hN3_5 hR3_5 hX3_5=>?_
  refine Aw_st hE [3,4,20,21,22,23] [1,6,15,30,600,601,602,603,604,605,606] fun K hK=>?_
  simp only [go_sem,seval]
  refine hK _ ?_;clear hK K
  refine Aw_sq fun B4_5 hB4_5 hR4_5 hX4_5=>?_
  refine Aw_yes rfl ?_
  refine Aw_skip (hB4_5 _ ?_)
  refine Aw_sq fun B6_5 hB6_5 hR6_5 hX6_5=>?_
  refine Aw_bk fun B7_5 hN7_5 hE7_5 hR7_5 hX7_5=>?_
  have hg_5:(grows [g1,g2,g3,g4,g5,g6])[5]? = some g6.row:=rfl
  have hln_5:=hlg g6 (by simp)
  refine Aw_st hE [3,4,6,20,21,22] [1,6,15,30,600,601,602,603,604,605,606] fun K hK=>?_
  simp only [go_sem,seval,hg_5,Int.reduceAdd]
  repeat refine ⟨by first|omega|(and_intros<;>first|omega|exact rows_row _|decide|(simp<;>omega))|fail,?_⟩
  refine hK _ ?_;clear hK K
  refine Aw_st hE [3,4,20,21,22] [1,6,15,30,600,601,602,603,604,605,606] fun K hK=>?_
  simp only [go_sem,seval]
  refine ⟨⟨by omega,by omega⟩,?_⟩
  refine hK _ ?_;clear hK K
  refine Aw_tx hE [3,4,20,21,22] [1,6,15,30,600,601,602,603,604,605,606] fun K hK=>?_
  simp only [go_sem,seval]
  refine hK _ (hN7_5 _ (hB6_5 _ ?_))
  refine Aw.leE (Le_E (Le_swb _ 30 606 (by decide) (by decide))) ?_
  simp only [St.swb,swbσ,swbm,AV.swb,AV.swbAll,swp,Nat.reduceEqDiff,if_true,if_false,reduceIte,gcs,List.cons_append,List.nil_append]
  refine Aw_tx hE [3,4,20,21,22] [1,6,15,30,600,601,602,603,604,605,606] fun K hK=>?_
  simp only [go_sem,seval,Int.reduceAdd]
  repeat refine ⟨by first|omega|(and_intros<;>first|omega|exact rows_row _|decide|(simp<;>omega))|fail,?_⟩
  refine hK _ (hN3_5 _ ?_)
  refine Aw_rd fun B3_6 hN3_6 hR3_6 hX3_6=>?_
  refine Aw_st hE [3,4,20,21,22,23] [1,6,15,30,600,601,602,603,604,605,606] fun K hK=>?_
  simp only [go_sem,seval]
  refine hK _ ?_;clear hK K
  refine Aw_sq fun B4_6 hB4_6 hR4_6 hX4_6=>?_
  refine Aw_no rfl ?_
  refine Aw_exit (hX4_6 _ _ (hX3_6 _ _ (hE2 _ (hB1 _ ?_))))
  refine Aw_st hE [2] [1,6,15,30,600,601,602,603,604,605,606] fun K hK=>?_
  simp only [go_sem,seval]
  refine hK _ ?_
  refine Aw.leE (Le_E (Le_ks [2] [600,601,602,603,604,605,606])) ?_
  refine Aw_ret (hQ _ ?_)
  simp only [go_sem,seval]
  exact hpost _ rfl
end Go.Proofs.W
end
section
namespace Go.Proofs.W
open Go Go.Eng Go.RowKit
set_option linter.unusedSimpArgs false
set_option maxRecDepth 100000
theorem open_postL {h:Int} {up:Bool} {l:List Gt} {M:List (Nat × List AV)} (hM:sesB h up l=M) (m1:List (Nat × List AV)) (K:AV→List (Nat × List AV)→Prop):(∀ r m2,cOpen.post [.agg [iv h,bv up,.sl none (grows l)]] m1 r m2→K r m2)=K (.loc 600 0) M:=by
 rw [open_post,hM]
theorem ribL_p {h:Int} {up:Bool} (l:List Gt) {n:Int} (hl:l.length≤1000):cRibL.pre [sesA h up l n]:=⟨h,up,l,n,rfl,hl⟩
theorem ribL_q {h:Int} {up:Bool} (l:List Gt) {n:Int} {K:AV→Prop} (hk:K (.agg [iv h,bv up,.sl none (grows l)])):∀ r,cRibL.post [sesA h up l n] r→K r:=fun r hr=>by
 rw [hr h up l n rfl];exact hk
def dRibDownI (pb:Addr):DFn:={ g:=gRibDown,inv:=WP pb }
attribute [go_sem] dRibDownI
theorem wp_mm (pb:Addr):Inh (WP pb) (fun _=>True) false:=fun _ _ _ _ _=>trivial
set_option maxHeartbeats 16000000 in
theorem iRibDown_ok (pb:Addr):Fine Tryz.prog 28 (dRibDownI pb).con:=by
 refine fine_detX [] gl_nil [] ms_nil [(42,(cOpen,[],[(600,400),(601,401),(602,402),(603,403),(604,404),(605,405),(606,406)]))] (mm_cons open_ok (by decide) mm_nil (wp_mm pb)) [] [] ex_nil (T:=TT) Tryz.func28 rfl Tryz.ntmps28 (by rw [Tryz.results28]) rfl rfl tt (gs_cons ribL_ok gs_nil) (ds_cons (iRibOk_ok pb) ds_nil (wp_inh pb)) ?_
 intro args c r h hc
 simp only [dRibDownI,gRibDown] at h
 split at h
 rotate_left
 ·cases h
 split at h
 rotate_left
 ·cases h
 rename_i h0 up t els g _ l hgo
 obtain rfl:=gotsL_eq hgo
 obtain ⟨rfl,rfl⟩:=Prod.mk.inj (Option.some.inj h)
 refine ⟨by simp,fun k E hE Q hQ=>?_⟩
 refine Aw_st hE [1,2,4] [2,4,412,413,414,415,416,417,418] fun K hK=>?_
 simp only [go_sem,seval]
 refine hK _ ?_;clear hK K
 refine Aw_sq fun B1 hB1 hR1 hX1=>?_
 refine Aw_st hE [1,2,4,9] [2,4,412,413,414,415,416,417,418] fun K hK=>?_
 simp only [go_sem,seval]
 refine ⟨⟨by omega,hc.2⟩,?_⟩
 refine hK _ (Aw_cond rfl (fun hc2=>?_) (fun hc2=>?_))
 ·have hok:ribOk ⟨h0,up,l⟩=false:=by simpa using hc2
  refine Aw_st hE [4] [2,4,412,413,414,415,416,417,418] fun K hK=>?_
  simp only [go_sem,seval]
  refine hK _ (Aw_ret (hR1 _ (hQ _ ?_)))
  simp only [go_sem,seval]
  rw [hok];rfl
 have hok:ribOk ⟨h0,up,l⟩=true:=by simpa using hc2
 rw [hok] at hQ
 simp only [if_true] at hQ
 have hl6:=(ribOk_iff.1 hok).2.1
 refine Aw_skip (hB1 _ ?_)
 rcases six hl6 with hl | ⟨g1,hl⟩ | ⟨g1,g2,hl⟩ | ⟨g1,g2,g3,hl⟩ | ⟨g1,g2,g3,g4,hl⟩ | ⟨g1,g2,g3,g4,g5,hl⟩ | ⟨g1,g2,g3,g4,g5,g6,hl⟩
 ·have hses:sesB h0 up l=[(600,[iv h0,bv up,.v (.pointer none),iv ((0:Nat):Int)])]:=by rw [hl];rfl
  have hop:=fun (m1:List (Nat × List AV)) (K:AV→List (Nat × List AV)→Prop)=>open_postL hses m1 K
  refine Aw_st hE [1,4,5] [2,4,412,413,414,415,416,417,418] fun K hK=>?_
  simp only [go_sem,seval,↓hop]
  refine ⟨by decide,⟨hl6,hc.2⟩,?_⟩
  subst hl
  refine hK _ ?_;clear hK K
  refine Aw_st hE [1,4,5] [2,4,412,413,414,415,416,417,418] fun K hK=>?_
  simp only [go_sem,seval]
  refine hK _ ?_;clear hK K
  refine Aw_sq fun B3 hB3 hR3 hX3=>?_
  refine Aw_st hE [4,5,17] [2,4,412,413,414,415,416,417,418] fun K hK=>?_
  simp only [go_sem,seval]
  refine hK _ (Aw_cond rfl (fun hc4=>?_) (fun hc4=>?_))
  ·have hg:g=false:=by simpa using hc4
   subst hg
   refine Aw_tx hE [4,5] [2,4,412,413,414,415,416,417,418] fun K hK=>?_
   simp only [go_sem,seval]
   refine hK _ (hB3 _ ?_)
   refine Aw_sq fun B5 hB5 hR5 hX5=>?_
   refine Aw_st hE [4,5,6] [2,4,412,413,414,415,416,417,418] fun K hK=>?_
   simp only [go_sem,seval]
   refine hK _ ?_;clear hK K
   refine Aw_bk fun B6 hN6 hE6 hR6 hX6=>?_
   refine Aw_unr 1 (Aw_rd fun B7 hN7 hR7 hX7=>?_)
   refine Aw_sq fun B8 hB8 hR8 hX8=>?_
   refine Aw_stP hE [4,5,6,26] [2,4,412,413,414,415,416,417,418] fun K hK=>?_
   simp only [go_sem,seval]
   refine hK _ (Aw_no rfl (Aw_exit (hX8 _ _ (hX7 _ _ (hE6 _ (hB5 _ ?_))))))
   refine Aw_frz hE rfl 412 4 rfl rfl ?_
   simp only [go_sem,seval]
   refine Aw_st hE [4] [2,4,412,413,414,415,416,417,418] fun K hK=>?_
   simp only [go_sem,seval]
   refine ⟨ribL_p [] (by simp),ribL_q [] ?_⟩
   simp only [go_sem,seval]
   refine hK _ (Aw_ret (hQ _ ?_))
   simp only [go_sem,seval]
   all_goals rfl
  ·have hg:g=true:=by simpa using hc4
   subst hg
   refine Aw_skip (hB3 _ ?_)
   refine Aw_sq fun B5 hB5 hR5 hX5=>?_
   refine Aw_st hE [4,5,6] [2,4,412,413,414,415,416,417,418] fun K hK=>?_
   simp only [go_sem,seval]
   refine hK _ ?_;clear hK K
   refine Aw_bk fun B6 hN6 hE6 hR6 hX6=>?_
   refine Aw_unr 1 ?_
   refine Aw_rd fun B7_0 hN7_0 hR7_0 hX7_0=>?_
   refine Aw_sq fun B8_0 hB8_0 hR8_0 hX8_0=>?_
   refine Aw_stP hE [4,5,6,26] [2,4,412,413,414,415,416,417,418] fun K hK=>?_
   simp only [go_sem,seval]
   refine hK _ (Aw_no rfl (Aw_exit (hX8_0 _ _ (hX7_0 _ _ (hE6 _ (hB5 _ ?_))))))
   refine Aw_frz hE rfl 412 4 rfl rfl ?_
   simp only [go_sem,seval]
   refine Aw_st hE [4] [2,4,412,413,414,415,416,417,418] fun K hK=>?_
   simp only [go_sem,seval]
   refine ⟨ribL_p [] (by simp),ribL_q [] ?_⟩
   simp only [go_sem,seval]
   refine hK _ (Aw_ret (hQ _ ?_))
   simp only [go_sem,seval]
   all_goals rfl
 ·have hses:sesB h0 up l=[(600,[iv h0,bv up,.loc 601 0,iv ((1:Nat):Int)]),(601,gcs g1++[.v (.pointer none)])]:=by rw [hl];rfl
  have hop:=fun (m1:List (Nat × List AV)) (K:AV→List (Nat × List AV)→Prop)=>open_postL hses m1 K
  refine Aw_st hE [1,4,5] [2,4,412,413,414,415,416,417,418] fun K hK=>?_
  simp only [go_sem,seval,↓hop]
  refine ⟨by decide,⟨hl6,hc.2⟩,?_⟩
  subst hl
  refine hK _ ?_;clear hK K
  refine Aw_st hE [1,4,5] [2,4,412,413,414,415,416,417,418] fun K hK=>?_
  simp only [go_sem,seval]
  refine hK _ ?_;clear hK K
  refine Aw_sq fun B3 hB3 hR3 hX3=>?_
  refine Aw_st hE [4,5,17] [2,4,412,413,414,415,416,417,418] fun K hK=>?_
  simp only [go_sem,seval]
  refine hK _ (Aw_cond rfl (fun hc4=>?_) (fun hc4=>?_))
  ·have hg:g=false:=by simpa using hc4
   subst hg
   refine Aw_tx hE [4,5] [2,4,412,413,414,415,416,417,418] fun K hK=>?_
   simp only [go_sem,seval]
   refine hK _ (hB3 _ ?_)
   refine Aw_sq fun B5 hB5 hR5 hX5=>?_
   refine Aw_st hE [4,5,6] [2,4,412,413,414,415,416,417,418] fun K hK=>?_
   simp only [go_sem,seval]
   refine hK _ ?_;clear hK K
   refine Aw_bk fun B6 hN6 hE6 hR6 hX6=>?_
   refine Aw_unr 1 (Aw_rd fun B7 hN7 hR7 hX7=>?_)
   refine Aw_sq fun B8 hB8 hR8 hX8=>?_
   refine Aw_stP hE [4,5,6,26] [2,4,412,413,414,415,416,417,418] fun K hK=>?_
   simp only [go_sem,seval]
   refine hK _ (Aw_no rfl (Aw_exit (hX8 _ _ (hX7 _ _ (hE6 _ (hB5 _ ?_))))))
   refine Aw_frz hE rfl 412 4 rfl rfl ?_
   simp only [go_sem,seval]
   refine Aw_st hE [4] [2,4,412,413,414,415,416,417,418] fun K hK=>?_
   simp only [go_sem,seval]
   refine ⟨ribL_p [] (by simp),ribL_q [] ?_⟩
   simp only [go_sem,seval]
   refine hK _ (Aw_ret (hQ _ ?_))
   simp only [go_sem,seval]
   all_goals rfl
  ·have hg:g=true:=by simpa using hc4
   subst hg
   refine Aw_skip (hB3 _ ?_)
   refine Aw_sq fun B5 hB5 hR5 hX5=>?_
   refine Aw_st hE [4,5,6] [2,4,412,413,414,415,416,417,418] fun K hK=>?_
   simp only [go_sem,seval]
   refine hK _ ?_;clear hK K
   refine Aw_bk fun B6 hN6 hE6 hR6 hX6=>?_
   refine Aw_unr 2 ?_
   refine Aw_rd fun B7_0 hN7_0 hR7_0 hX7_0=>?_
   refine Aw_sq fun B8_0 hB8_0 hR8_0 hX8_0=>?_
   refine Aw_stP hE [4,5,6,26] [2,4,412,413,414,415,416,417,418] fun K hK=>?_
   simp only [go_sem,seval]
   refine hK _ (Aw_yes rfl (Aw_skip (hB8_0 _ ?_)))
   refine Aw_sq fun B10_0 hB10_0 hR10_0 hX10_0=>?_
   refine Aw_bk fun B11_0 hN11_0 hE11_0 hR11_0 hX11_0=>?_
   refine Aw_tx hE [4,5,6] [2,4,412,413,414,415,416,417,418] fun K hK=>?_
   simp only [go_sem,seval]
   repeat refine ⟨by first|omega|(and_intros<;>first|omega|exact rows_row _|decide|(simp<;>omega))|fail,?_⟩
   refine hK _ (hN11_0 _ (hB10_0 _ ?_))
   refine Aw_tx hE [4,5,6] [2,4,412,413,414,415,416,417,418] fun K hK=>?_
   simp only [go_sem,seval]
   refine hK _ (hN7_0 _ ?_)
   refine Aw_rd fun B7_1 hN7_1 hR7_1 hX7_1=>?_
   refine Aw_sq fun B8_1 hB8_1 hR8_1 hX8_1=>?_
   refine Aw_stP hE [4,5,6,26] [2,4,412,413,414,415,416,417,418] fun K hK=>?_
   simp only [go_sem,seval]
   refine hK _ (Aw_no rfl (Aw_exit (hX8_1 _ _ (hX7_1 _ _ (hE6 _ (hB5 _ ?_))))))
   refine Aw_frz hE rfl 413 7 rfl rfl ?_
   simp only [go_sem,seval]
   refine Aw_frz hE rfl 412 4 rfl rfl ?_
   simp only [go_sem,seval]
   refine Aw_st hE [4] [2,4,412,413,414,415,416,417,418] fun K hK=>?_
   simp only [go_sem,seval]
   refine ⟨ribL_p [oldG g1] (by simp),ribL_q [oldG g1] ?_⟩
   simp only [go_sem,seval]
   refine hK _ (Aw_ret (hQ _ ?_))
   simp only [go_sem,seval]
   all_goals rfl
 ·have hses:sesB h0 up l=[(600,[iv h0,bv up,.loc 601 0,iv ((2:Nat):Int)]),(601,gcs g1++[.loc 602 0]),(602,gcs g2++[.v (.pointer none)])]:=by rw [hl];rfl
  have hop:=fun (m1:List (Nat × List AV)) (K:AV→List (Nat × List AV)→Prop)=>open_postL hses m1 K
  refine Aw_st hE [1,4,5] [2,4,412,413,414,415,416,417,418] fun K hK=>?_
  simp only [go_sem,seval,↓hop]
  refine ⟨by decide,⟨hl6,hc.2⟩,?_⟩
  subst hl
  refine hK _ ?_;clear hK K
  refine Aw_st hE [1,4,5] [2,4,412,413,414,415,416,417,418] fun K hK=>?_
  simp only [go_sem,seval]
  refine hK _ ?_;clear hK K
  refine Aw_sq fun B3 hB3 hR3 hX3=>?_
  refine Aw_st hE [4,5,17] [2,4,412,413,414,415,416,417,418] fun K hK=>?_
  simp only [go_sem,seval]
  refine hK _ (Aw_cond rfl (fun hc4=>?_) (fun hc4=>?_))
  ·have hg:g=false:=by simpa using hc4
   subst hg
   refine Aw_tx hE [4,5] [2,4,412,413,414,415,416,417,418] fun K hK=>?_
   simp only [go_sem,seval]
   refine hK _ (hB3 _ ?_)
   refine Aw_sq fun B5 hB5 hR5 hX5=>?_
   refine Aw_st hE [4,5,6] [2,4,412,413,414,415,416,417,418] fun K hK=>?_
   simp only [go_sem,seval]
   refine hK _ ?_;clear hK K
   refine Aw_bk fun B6 hN6 hE6 hR6 hX6=>?_
   refine Aw_unr 1 (Aw_rd fun B7 hN7 hR7 hX7=>?_)
   refine Aw_sq fun B8 hB8 hR8 hX8=>?_
   refine Aw_stP hE [4,5,6,26] [2,4,412,413,414,415,416,417,418] fun K hK=>?_
   simp only [go_sem,seval]
   refine hK _ (Aw_no rfl (Aw_exit (hX8 _ _ (hX7 _ _ (hE6 _ (hB5 _ ?_))))))
   refine Aw_frz hE rfl 412 4 rfl rfl ?_
   simp only [go_sem,seval]
   refine Aw_st hE [4] [2,4,412,413,414,415,416,417,418] fun K hK=>?_
   simp only [go_sem,seval]
   refine ⟨ribL_p [] (by simp),ribL_q [] ?_⟩
   simp only [go_sem,seval]
   refine hK _ (Aw_ret (hQ _ ?_))
   simp only [go_sem,seval]
   all_goals rfl
  ·have hg:g=true:=by simpa using hc4
   subst hg
   refine Aw_skip (hB3 _ ?_)
   refine Aw_sq fun B5 hB5 hR5 hX5=>?_
   refine Aw_st hE [4,5,6] [2,4,412,413,414,415,416,417,418] fun K hK=>?_
   simp only [go_sem,seval]
   refine hK _ ?_;clear hK K
   refine Aw_bk fun B6 hN6 hE6 hR6 hX6=>?_
   refine Aw_unr 3 ?_
   refine Aw_rd fun B7_0 hN7_0 hR7_0 hX7_0=>?_
   refine Aw_sq fun B8_0 hB8_0 hR8_0 hX8_0=>?_
   refine Aw_stP hE [4,5,6,26] [2,4,412,413,414,415,416,417,418] fun K hK=>?_
   simp only [go_sem,seval]
   refine hK _ (Aw_yes rfl (Aw_skip (hB8_0 _ ?_)))
   refine Aw_sq fun B10_0 hB10_0 hR10_0 hX10_0=>?_
   refine Aw_bk fun B11_0 hN11_0 hE11_0 hR11_0 hX11_0=>?_
   refine Aw_tx hE [4,5,6] [2,4,412,413,414,415,416,417,418] fun K hK=>?_
   simp only [go_sem,seval]
   repeat refine ⟨by first|omega|(and_intros<;>first|omega|exact rows_row _|decide|(simp<;>omega))|fail,?_⟩
   refine hK _ (hN11_0 _ (hB10_0 _ ?_))
   refine Aw_tx hE [4,5,6] [2,4,412,413,414,415,416,417,418] fun K hK=>?_
   simp only [go_sem,seval]
   refine hK _ (hN7_0 _ ?_)
   refine Aw_rd fun B7_1 hN7_1 hR7_1 hX7_1=>?_
   refine Aw_sq fun B8_1 hB8_1 hR8_1 hX8_1=>?_
   refine Aw_stP hE [4,5,6,26] [2,4,412,413,414,415,416,417,418] fun K hK=>?_
   simp only [go_sem,seval]
   refine hK _ (Aw_yes rfl (Aw_skip (hB8_1 _ ?_)))
   refine Aw_sq fun B10_1 hB10_1 hR10_1 hX10_1=>?_
   refine Aw_bk fun B11_1 hN11_1 hE11_1 hR11_1 hX11_1=>?_
   refine Aw_tx hE [4,5,6] [2,4,412,413,414,415,416,417,418] fun K hK=>?_
   simp only [go_sem,seval]
   repeat refine ⟨by first|omega|(and_intros<;>first|omega|exact rows_row _|decide|(simp<;>omega))|fail,?_⟩
   refine hK _ (hN11_1 _ (hB10_1 _ ?_))
   refine Aw_tx hE [4,5,6] [2,4,412,413,414,415,416,417,418] fun K hK=>?_
   simp only [go_sem,seval]
   refine hK _ (hN7_1 _ ?_)
   refine Aw_rd fun B7_2 hN7_2 hR7_2 hX7_2=>?_
   refine Aw_sq fun B8_2 hB8_2 hR8_2 hX8_2=>?_
   refine Aw_stP hE [4,5,6,26] [2,4,412,413,414,415,416,417,418] fun K hK=>?_
   simp only [go_sem,seval]
   refine hK _ (Aw_no rfl (Aw_exit (hX8_2 _ _ (hX7_2 _ _ (hE6 _ (hB5 _ ?_))))))
   refine Aw_frz hE rfl 414 7 rfl rfl ?_
   simp only [go_sem,seval]
   refine Aw_frz hE rfl 413 7 rfl rfl ?_
   simp only [go_sem,seval]
   refine Aw_frz hE rfl 412 4 rfl rfl ?_
   simp only [go_sem,seval]
   refine Aw_st hE [4] [2,4,412,413,414,415,416,417,418] fun K hK=>?_
   simp only [go_sem,seval]
   refine ⟨ribL_p [oldG g1,oldG g2] (by simp),ribL_q [oldG g1,oldG g2] ?_⟩
   simp only [go_sem,seval]
   refine hK _ (Aw_ret (hQ _ ?_))
   simp only [go_sem,seval]
   all_goals rfl
 ·have hses:sesB h0 up l=[(600,[iv h0,bv up,.loc 601 0,iv ((3:Nat):Int)]),(601,gcs g1++[.loc 602 0]),(602,gcs g2++[.loc 603 0]),(603,gcs g3++[.v (.pointer none)])]:=by rw [hl];rfl
  have hop:=fun (m1:List (Nat × List AV)) (K:AV→List (Nat × List AV)→Prop)=>open_postL hses m1 K
  refine Aw_st hE [1,4,5] [2,4,412,413,414,415,416,417,418] fun K hK=>?_
  simp only [go_sem,seval,↓hop]
  refine ⟨by decide,⟨hl6,hc.2⟩,?_⟩
  subst hl
  refine hK _ ?_;clear hK K
  refine Aw_st hE [1,4,5] [2,4,412,413,414,415,416,417,418] fun K hK=>?_
  simp only [go_sem,seval]
  refine hK _ ?_;clear hK K
  refine Aw_sq fun B3 hB3 hR3 hX3=>?_
  refine Aw_st hE [4,5,17] [2,4,412,413,414,415,416,417,418] fun K hK=>?_
  simp only [go_sem,seval]
  refine hK _ (Aw_cond rfl (fun hc4=>?_) (fun hc4=>?_))
  ·have hg:g=false:=by simpa using hc4
   subst hg
   refine Aw_tx hE [4,5] [2,4,412,413,414,415,416,417,418] fun K hK=>?_
   simp only [go_sem,seval]
   refine hK _ (hB3 _ ?_)
   refine Aw_sq fun B5 hB5 hR5 hX5=>?_
   refine Aw_st hE [4,5,6] [2,4,412,413,414,415,416,417,418] fun K hK=>?_
   simp only [go_sem,seval]
   refine hK _ ?_;clear hK K
   refine Aw_bk fun B6 hN6 hE6 hR6 hX6=>?_
   refine Aw_unr 1 (Aw_rd fun B7 hN7 hR7 hX7=>?_)
   refine Aw_sq fun B8 hB8 hR8 hX8=>?_
   refine Aw_stP hE [4,5,6,26] [2,4,412,413,414,415,416,417,418] fun K hK=>?_
   simp only [go_sem,seval]
   refine hK _ (Aw_no rfl (Aw_exit (hX8 _ _ (hX7 _ _ (hE6 _ (hB5 _ ?_))))))
   refine Aw_frz hE rfl 412 4 rfl rfl ?_
   simp only [go_sem,seval]
   refine Aw_st hE [4] [2,4,412,413,414,415,416,417,418] fun K hK=>?_
   simp only [go_sem,seval]
   refine ⟨ribL_p [] (by simp),ribL_q [] ?_⟩
   simp only [go_sem,seval]
   refine hK _ (Aw_ret (hQ _ ?_))
   simp only [go_sem,seval]
   all_goals rfl
  ·have hg:g=true:=by simpa using hc4
   subst hg
   refine Aw_skip (hB3 _ ?_)
   refine Aw_sq fun B5 hB5 hR5 hX5=>?_
   refine Aw_st hE [4,5,6] [2,4,412,413,414,415,416,417,418] fun K hK=>?_
   simp only [go_sem,seval]
   refine hK _ ?_;clear hK K
   refine Aw_bk fun B6 hN6 hE6 hR6 hX6=>?_
   refine Aw_unr 4 ?_
   refine Aw_rd fun B7_0 hN7_0 hR7_0 hX7_0=>?_
   refine Aw_sq fun B8_0 hB8_0 hR8_0 hX8_0=>?_
   refine Aw_stP hE [4,5,6,26] [2,4,412,413,414,415,416,417,418] fun K hK=>?_
   simp only [go_sem,seval]
   refine hK _ (Aw_yes rfl (Aw_skip (hB8_0 _ ?_)))
   refine Aw_sq fun B10_0 hB10_0 hR10_0 hX10_0=>?_
   refine Aw_bk fun B11_0 hN11_0 hE11_0 hR11_0 hX11_0=>?_
   refine Aw_tx hE [4,5,6] [2,4,412,413,414,415,416,417,418] fun K hK=>?_
   simp only [go_sem,seval]
   repeat refine ⟨by first|omega|(and_intros<;>first|omega|exact rows_row _|decide|(simp<;>omega))|fail,?_⟩
   refine hK _ (hN11_0 _ (hB10_0 _ ?_))
   refine Aw_tx hE [4,5,6] [2,4,412,413,414,415,416,417,418] fun K hK=>?_
   simp only [go_sem,seval]
   refine hK _ (hN7_0 _ ?_)
   refine Aw_rd fun B7_1 hN7_1 hR7_1 hX7_1=>?_
   refine Aw_sq fun B8_1 hB8_1 hR8_1 hX8_1=>?_
   refine Aw_stP hE [4,5,6,26] [2,4,412,413,414,415,416,417,418] fun K hK=>?_
   simp only [go_sem,seval]
   refine hK _ (Aw_yes rfl (Aw_skip (hB8_1 _ ?_)))
   refine Aw_sq fun B10_1 hB10_1 hR10_1 hX10_1=>?_
   refine Aw_bk fun B11_1 hN11_1 hE11_1 hR11_1 hX11_1=>?_
   refine Aw_tx hE [4,5,6] [2,4,412,413,414,415,416,417,418] fun K hK=>?_
   simp only [go_sem,seval]
   repeat refine ⟨by first|omega|(and_intros<;>first|omega|exact rows_row _|decide|(simp<;>omega))|fail,?_⟩
   refine hK _ (hN11_1 _ (hB10_1 _ ?_))
   refine Aw_tx hE [4,5,6] [2,4,412,413,414,415,416,417,418] fun K hK=>?_
   simp only [go_sem,seval]
   refine hK _ (hN7_1 _ ?_)
   refine Aw_rd fun B7_2 hN7_2 hR7_2 hX7_2=>?_
   refine Aw_sq fun B8_2 hB8_2 hR8_2 hX8_2=>?_
   refine Aw_stP hE [4,5,6,26] [2,4,412,413,414,415,416,417,418] fun K hK=>?_
   simp only [go_sem,seval]
   refine hK _ (Aw_yes rfl (Aw_skip (hB8_2 _ ?_)))
   refine Aw_sq fun B10_2 hB10_2 hR10_2 hX10_2=>?_
   refine Aw_bk fun B11_2 hN11_2 hE11_2 hR11_2 hX11_2=>?_
   refine Aw_tx hE [4,5,6] [2,4,412,413,414,415,416,417,418] fun K hK=>?_
   simp only [go_sem,seval]
   repeat refine ⟨by first|omega|(and_intros<;>first|omega|exact rows_row _|decide|(simp<;>omega))|fail,?_⟩
   refine hK _ (hN11_2 _ (hB10_2 _ ?_))
   refine Aw_tx hE [4,5,6] [2,4,412,413,414,415,416,417,418] fun K hK=>?_
   simp only [go_sem,seval]
   refine hK _ (hN7_2 _ ?_)
   refine Aw_rd fun B7_3 hN7_3 hR7_3 hX7_3=>?_
   refine Aw_sq fun B8_3 hB8_3 hR8_3 hX8_3=>?_
   refine Aw_stP hE [4,5,6,26] [2,4,412,413,414,415,416,417,418] fun K hK=>?_
   simp only [go_sem,seval]
   refine hK _ (Aw_no rfl (Aw_exit (hX8_3 _ _ (hX7_3 _ _ (hE6 _ (hB5 _ ?_))))))
   refine Aw_frz hE rfl 415 7 rfl rfl ?_
   simp only [go_sem,seval]
   refine Aw_frz hE rfl 414 7 rfl rfl ?_
   simp only [go_sem,seval]
   refine Aw_frz hE rfl 413 7 rfl rfl ?_
   simp only [go_sem,seval]
   refine Aw_frz hE rfl 412 4 rfl rfl ?_
   simp only [go_sem,seval]
   refine Aw_st hE [4] [2,4,412,413,414,415,416,417,418] fun K hK=>?_
   simp only [go_sem,seval]
   refine ⟨ribL_p [oldG g1,oldG g2,oldG g3] (by simp),ribL_q [oldG g1,oldG g2,oldG g3] ?_⟩
   simp only [go_sem,seval]
   refine hK _ (Aw_ret (hQ _ ?_))
   simp only [go_sem,seval]
   all_goals rfl
 ·have hses:sesB h0 up l=[(600,[iv h0,bv up,.loc 601 0,iv ((4:Nat):Int)]),(601,gcs g1++[.loc 602 0]),(602,gcs g2++[.loc 603 0]),(603,gcs g3++[.loc 604 0]),(604,gcs g4++[.v (.pointer none)])]:=by rw [hl];rfl
  have hop:=fun (m1:List (Nat × List AV)) (K:AV→List (Nat × List AV)→Prop)=>open_postL hses m1 K
  refine Aw_st hE [1,4,5] [2,4,412,413,414,415,416,417,418] fun K hK=>?_
  simp only [go_sem,seval,↓hop]
  refine ⟨by decide,⟨hl6,hc.2⟩,?_⟩
  subst hl
  refine hK _ ?_;clear hK K
  refine Aw_st hE [1,4,5] [2,4,412,413,414,415,416,417,418] fun K hK=>?_
  simp only [go_sem,seval]
  refine hK _ ?_;clear hK K
  refine Aw_sq fun B3 hB3 hR3 hX3=>?_
  refine Aw_st hE [4,5,17] [2,4,412,413,414,415,416,417,418] fun K hK=>?_
  simp only [go_sem,seval]
  refine hK _ (Aw_cond rfl (fun hc4=>?_) (fun hc4=>?_))
  ·have hg:g=false:=by simpa using hc4
   subst hg
   refine Aw_tx hE [4,5] [2,4,412,413,414,415,416,417,418] fun K hK=>?_
   simp only [go_sem,seval]
   refine hK _ (hB3 _ ?_)
   refine Aw_sq fun B5 hB5 hR5 hX5=>?_
   refine Aw_st hE [4,5,6] [2,4,412,413,414,415,416,417,418] fun K hK=>?_
   simp only [go_sem,seval]
   refine hK _ ?_;clear hK K
   refine Aw_bk fun B6 hN6 hE6 hR6 hX6=>?_
   refine Aw_unr 1 (Aw_rd fun B7 hN7 hR7 hX7=>?_)
   refine Aw_sq fun B8 hB8 hR8 hX8=>?_
   refine Aw_stP hE [4,5,6,26] [2,4,412,413,414,415,416,417,418] fun K hK=>?_
   simp only [go_sem,seval]
   refine hK _ (Aw_no rfl (Aw_exit (hX8 _ _ (hX7 _ _ (hE6 _ (hB5 _ ?_))))))
   refine Aw_frz hE rfl 412 4 rfl rfl ?_
   simp only [go_sem,seval]
   refine Aw_st hE [4] [2,4,412,413,414,415,416,417,418] fun K hK=>?_
   simp only [go_sem,seval]
   refine ⟨ribL_p [] (by simp),ribL_q [] ?_⟩
   simp only [go_sem,seval]
   refine hK _ (Aw_ret (hQ _ ?_))
   simp only [go_sem,seval]
   all_goals rfl
  ·have hg:g=true:=by simpa using hc4
   subst hg
   refine Aw_skip (hB3 _ ?_)
   refine Aw_sq fun B5 hB5 hR5 hX5=>?_
   refine Aw_st hE [4,5,6] [2,4,412,413,414,415,416,417,418] fun K hK=>?_
   simp only [go_sem,seval]
   refine hK _ ?_;clear hK K
   refine Aw_bk fun B6 hN6 hE6 hR6 hX6=>?_
   refine Aw_unr 5 ?_
   refine Aw_rd fun B7_0 hN7_0 hR7_0 hX7_0=>?_
   refine Aw_sq fun B8_0 hB8_0 hR8_0 hX8_0=>?_
   refine Aw_stP hE [4,5,6,26] [2,4,412,413,414,415,416,417,418] fun K hK=>?_
   simp only [go_sem,seval]
   refine hK _ (Aw_yes rfl (Aw_skip (hB8_0 _ ?_)))
   refine Aw_sq fun B10_0 hB10_0 hR10_0 hX10_0=>?_
   refine Aw_bk fun B11_0 hN11_0 hE11_0 hR11_0 hX11_0=>?_
   refine Aw_tx hE [4,5,6] [2,4,412,413,414,415,416,417,418] fun K hK=>?_
   simp only [go_sem,seval]
   repeat refine ⟨by first|omega|(and_intros<;>first|omega|exact rows_row _|decide|(simp<;>omega))|fail,?_⟩
   refine hK _ (hN11_0 _ (hB10_0 _ ?_))
   refine Aw_tx hE [4,5,6] [2,4,412,413,414,415,416,417,418] fun K hK=>?_
   simp only [go_sem,seval]
   refine hK _ (hN7_0 _ ?_)
   refine Aw_rd fun B7_1 hN7_1 hR7_1 hX7_1=>?_
   refine Aw_sq fun B8_1 hB8_1 hR8_1 hX8_1=>?_
   refine Aw_stP hE [4,5,6,26] [2,4,412,413,414,415,416,417,418] fun K hK=>?_
   simp only [go_sem,seval]
   refine hK _ (Aw_yes rfl (Aw_skip (hB8_1 _ ?_)))
   refine Aw_sq fun B10_1 hB10_1 hR10_1 hX10_1=>?_
   refine Aw_bk fun B11_1 hN11_1 hE11_1 hR11_1 hX11_1=>?_
   refine Aw_tx hE [4,5,6] [2,4,412,413,414,415,416,417,418] fun K hK=>?_
   simp only [go_sem,seval]
   repeat refine ⟨by first|omega|(and_intros<;>first|omega|exact rows_row _|decide|(simp<;>omega))|fail,?_⟩
   refine hK _ (hN11_1 _ (hB10_1 _ ?_))
   refine Aw_tx hE [4,5,6] [2,4,412,413,414,415,416,417,418] fun K hK=>?_
   simp only [go_sem,seval]
   refine hK _ (hN7_1 _ ?_)
   refine Aw_rd fun B7_2 hN7_2 hR7_2 hX7_2=>?_
   refine Aw_sq fun B8_2 hB8_2 hR8_2 hX8_2=>?_
   refine Aw_stP hE [4,5,6,26] [2,4,412,413,414,415,416,417,418] fun K hK=>?_
   simp only [go_sem,seval]
   refine hK _ (Aw_yes rfl (Aw_skip (hB8_2 _ ?_)))
   refine Aw_sq fun B10_2 hB10_2 hR10_2 hX10_2=>?_
   refine Aw_bk fun B11_2 hN11_2 hE11_2 hR11_2 hX11_2=>?_
   refine Aw_tx hE [4,5,6] [2,4,412,413,414,415,416,417,418] fun K hK=>?_
   simp only [go_sem,seval]
   repeat refine ⟨by first|omega|(and_intros<;>first|omega|exact rows_row _|decide|(simp<;>omega))|fail,?_⟩
   refine hK _ (hN11_2 _ (hB10_2 _ ?_))
   refine Aw_tx hE [4,5,6] [2,4,412,413,414,415,416,417,418] fun K hK=>?_
   simp only [go_sem,seval]
   refine hK _ (hN7_2 _ ?_)
   refine Aw_rd fun B7_3 hN7_3 hR7_3 hX7_3=>?_
   refine Aw_sq fun B8_3 hB8_3 hR8_3 hX8_3=>?_
   refine Aw_stP hE [4,5,6,26] [2,4,412,413,414,415,416,417,418] fun K hK=>?_
   simp only [go_sem,seval]
   refine hK _ (Aw_yes rfl (Aw_skip (hB8_3 _ ?_)))
   refine Aw_sq fun B10_3 hB10_3 hR10_3 hX10_3=>?_
   refine Aw_bk fun B11_3 hN11_3 hE11_3 hR11_3 hX11_3=>?_
   refine Aw_tx hE [4,5,6] [2,4,412,413,414,415,416,417,418] fun K hK=>?_
   simp only [go_sem,seval]
   repeat refine ⟨by first|omega|(and_intros<;>first|omega|exact rows_row _|decide|(simp<;>omega))|fail,?_⟩
   refine hK _ (hN11_3 _ (hB10_3 _ ?_))
   refine Aw_tx hE [4,5,6] [2,4,412,413,414,415,416,417,418] fun K hK=>?_
   simp only [go_sem,seval]
   refine hK _ (hN7_3 _ ?_)
   refine Aw_rd fun B7_4 hN7_4 hR7_4 hX7_4=>?_
   refine Aw_sq fun B8_4 hB8_4 hR8_4 hX8_4=>?_
   refine Aw_stP hE [4,5,6,26] [2,4,412,413,414,415,416,417,418] fun K hK=>?_
   simp only [go_sem,seval]
   refine hK _ (Aw_no rfl (Aw_exit (hX8_4 _ _ (hX7_4 _ _ (hE6 _ (hB5 _ ?_))))))
   refine Aw_frz hE rfl 416 7 rfl rfl ?_
   simp only [go_sem,seval]
   refine Aw_frz hE rfl 415 7 rfl rfl ?_
   simp only [go_sem,seval]
   refine Aw_frz hE rfl 414 7 rfl rfl ?_
   simp only [go_sem,seval]
   refine Aw_frz hE rfl 413 7 rfl rfl ?_
   simp only [go_sem,seval]
   refine Aw_frz hE rfl 412 4 rfl rfl ?_
   simp only [go_sem,seval]
   refine Aw_st hE [4] [2,4,412,413,414,415,416,417,418] fun K hK=>?_
   simp only [go_sem,seval]
   refine ⟨ribL_p [oldG g1,oldG g2,oldG g3,oldG g4] (by simp),ribL_q [oldG g1,oldG g2,oldG g3,oldG g4] ?_⟩
   simp only [go_sem,seval]
   refine hK _ (Aw_ret (hQ _ ?_))
   simp only [go_sem,seval]
   all_goals rfl
 ·have hses:sesB h0 up l=[(600,[iv h0,bv up,.loc 601 0,iv ((5:Nat):Int)]),(601,gcs g1++[.loc 602 0]),(602,gcs g2++[.loc 603 0]),(603,gcs g3++[.loc 604 0]),(604,gcs g4++[.loc 605 0]),(605,gcs g5++[.v (.pointer none)])]:=by rw [hl];rfl
  have hop:=fun (m1:List (Nat × List AV)) (K:AV→List (Nat × List AV)→Prop)=>open_postL hses m1 K
  refine Aw_st hE [1,4,5] [2,4,412,413,414,415,416,417,418] fun K hK=>?_
  simp only [go_sem,seval,↓hop]
  refine ⟨by decide,⟨hl6,hc.2⟩,?_⟩
  subst hl
  refine hK _ ?_;clear hK K
  refine Aw_st hE [1,4,5] [2,4,412,413,414,415,416,417,418] fun K hK=>?_
  simp only [go_sem,seval]
  refine hK _ ?_;clear hK K
  refine Aw_sq fun B3 hB3 hR3 hX3=>?_
  refine Aw_st hE [4,5,17] [2,4,412,413,414,415,416,417,418] fun K hK=>?_
  simp only [go_sem,seval]
  refine hK _ (Aw_cond rfl (fun hc4=>?_) (fun hc4=>?_))
  ·have hg:g=false:=by simpa using hc4
   subst hg
   refine Aw_tx hE [4,5] [2,4,412,413,414,415,416,417,418] fun K hK=>?_
   simp only [go_sem,seval]
   refine hK _ (hB3 _ ?_)
   refine Aw_sq fun B5 hB5 hR5 hX5=>?_
   refine Aw_st hE [4,5,6] [2,4,412,413,414,415,416,417,418] fun K hK=>?_
   simp only [go_sem,seval]
   refine hK _ ?_;clear hK K
   refine Aw_bk fun B6 hN6 hE6 hR6 hX6=>?_
   refine Aw_unr 1 (Aw_rd fun B7 hN7 hR7 hX7=>?_)
   refine Aw_sq fun B8 hB8 hR8 hX8=>?_
   refine Aw_stP hE [4,5,6,26] [2,4,412,413,414,415,416,417,418] fun K hK=>?_
   simp only [go_sem,seval]
   refine hK _ (Aw_no rfl (Aw_exit (hX8 _ _ (hX7 _ _ (hE6 _ (hB5 _ ?_))))))
   refine Aw_frz hE rfl 412 4 rfl rfl ?_
   simp only [go_sem,seval]
   refine Aw_st hE [4] [2,4,412,413,414,415,416,417,418] fun K hK=>?_
   simp only [go_sem,seval]
   refine ⟨ribL_p [] (by simp),ribL_q [] ?_⟩
   simp only [go_sem,seval]
   refine hK _ (Aw_ret (hQ _ ?_))
   simp only [go_sem,seval]
   all_goals rfl
  ·have hg:g=true:=by simpa using hc4
   subst hg
   refine Aw_skip (hB3 _ ?_)
   refine Aw_sq fun B5 hB5 hR5 hX5=>?_
   refine Aw_st hE [4,5,6] [2,4,412,413,414,415,416,417,418] fun K hK=>?_
   simp only [go_sem,seval]
   refine hK _ ?_;clear hK K
   refine Aw_bk fun B6 hN6 hE6 hR6 hX6=>?_
   refine Aw_unr 6 ?_
   refine Aw_rd fun B7_0 hN7_0 hR7_0 hX7_0=>?_
   refine Aw_sq fun B8_0 hB8_0 hR8_0 hX8_0=>?_
   refine Aw_stP hE [4,5,6,26] [2,4,412,413,414,415,416,417,418] fun K hK=>?_
   simp only [go_sem,seval]
   refine hK _ (Aw_yes rfl (Aw_skip (hB8_0 _ ?_)))
   refine Aw_sq fun B10_0 hB10_0 hR10_0 hX10_0=>?_
   refine Aw_bk fun B11_0 hN11_0 hE11_0 hR11_0 hX11_0=>?_
   refine Aw_tx hE [4,5,6] [2,4,412,413,414,415,416,417,418] fun K hK=>?_
   simp only [go_sem,seval]
   repeat refine ⟨by first|omega|(and_intros<;>first|omega|exact rows_row _|decide|(simp<;>omega))|fail,?_⟩
   refine hK _ (hN11_0 _ (hB10_0 _ ?_))
   refine Aw_tx hE [4,5,6] [2,4,412,413,414,415,416,417,418] fun K hK=>?_
   simp only [go_sem,seval]
   refine hK _ (hN7_0 _ ?_)
   refine Aw_rd fun B7_1 hN7_1 hR7_1 hX7_1=>?_
   refine Aw_sq fun B8_1 hB8_1 hR8_1 hX8_1=>?_
   refine Aw_stP hE [4,5,6,26] [2,4,412,413,414,415,416,417,418] fun K hK=>?_
   simp only [go_sem,seval]
   refine hK _ (Aw_yes rfl (Aw_skip (hB8_1 _ ?_)))
   refine Aw_sq fun B10_1 hB10_1 hR10_1 hX10_1=>?_
   refine Aw_bk fun B11_1 hN11_1 hE11_1 hR11_1 hX11_1=>?_
   refine Aw_tx hE [4,5,6] [2,4,412,413,414,415,416,417,418] fun K hK=>?_
   simp only [go_sem,seval]
   repeat refine ⟨by first|omega|(and_intros<;>first|omega|exact rows_row _|decide|(simp<;>omega))|fail,?_⟩
   refine hK _ (hN11_1 _ (hB10_1 _ ?_))
   refine Aw_tx hE [4,5,6] [2,4,412,413,414,415,416,417,418] fun K hK=>?_
   simp only [go_sem,seval]
   refine hK _ (hN7_1 _ ?_)
   refine Aw_rd fun B7_2 hN7_2 hR7_2 hX7_2=>?_
   refine Aw_sq fun B8_2 hB8_2 hR8_2 hX8_2=>?_
   refine Aw_stP hE [4,5,6,26] [2,4,412,413,414,415,416,417,418] fun K hK=>?_
   simp only [go_sem,seval]
   refine hK _ (Aw_yes rfl (Aw_skip (hB8_2 _ ?_)))
   refine Aw_sq fun B10_2 hB10_2 hR10_2 hX10_2=>?_
   refine Aw_bk fun B11_2 hN11_2 hE11_2 hR11_2 hX11_2=>?_
   refine Aw_tx hE [4,5,6] [2,4,412,413,414,415,416,417,418] fun K hK=>?_
   simp only [go_sem,seval]
   repeat refine ⟨by first|omega|(and_intros<;>first|omega|exact rows_row _|decide|(simp<;>omega))|fail,?_⟩
   refine hK _ (hN11_2 _ (hB10_2 _ ?_))
   refine Aw_tx hE [4,5,6] [2,4,412,413,414,415,416,417,418] fun K hK=>?_
   simp only [go_sem,seval]
   refine hK _ (hN7_2 _ ?_)
   refine Aw_rd fun B7_3 hN7_3 hR7_3 hX7_3=>?_
   refine Aw_sq fun B8_3 hB8_3 hR8_3 hX8_3=>?_
   refine Aw_stP hE [4,5,6,26] [2,4,412,413,414,415,416,417,418] fun K hK=>?_
   simp only [go_sem,seval]
   refine hK _ (Aw_yes rfl (Aw_skip (hB8_3 _ ?_)))
   refine Aw_sq fun B10_3 hB10_3 hR10_3 hX10_3=>?_
   refine Aw_bk fun B11_3 hN11_3 hE11_3 hR11_3 hX11_3=>?_
   refine Aw_tx hE [4,5,6] [2,4,412,413,414,415,416,417,418] fun K hK=>?_
   simp only [go_sem,seval]
   repeat refine ⟨by first|omega|(and_intros<;>first|omega|exact rows_row _|decide|(simp<;>omega))|fail,?_⟩
   refine hK _ (hN11_3 _ (hB10_3 _ ?_))
   refine Aw_tx hE [4,5,6] [2,4,412,413,414,415,416,417,418] fun K hK=>?_
   simp only [go_sem,seval]
   refine hK _ (hN7_3 _ ?_)
   refine Aw_rd fun B7_4 hN7_4 hR7_4 hX7_4=>?_
   refine Aw_sq fun B8_4 hB8_4 hR8_4 hX8_4=>?_
   refine Aw_stP hE [4,5,6,26] [2,4,412,413,414,415,416,417,418] fun K hK=>?_
   simp only [go_sem,seval]
   refine hK _ (Aw_yes rfl (Aw_skip (hB8_4 _ ?_)))
   refine Aw_sq fun B10_4 hB10_4 hR10_4 hX10_4=>?_
   refine Aw_bk fun B11_4 hN11_4 hE11_4 hR11_4 hX11_4=>?_
   refine Aw_tx hE [4,5,6] [2,4,412,413,414,415,416,417,418] fun K hK=>?_
   simp only [go_sem,seval]
   repeat refine ⟨by first|omega|(and_intros<;>first|omega|exact rows_row _|decide|(simp<;>omega))|fail,?_⟩
   refine hK _ (hN11_4 _ (hB10_4 _ ?_))
   refine Aw_tx hE [4,5,6] [2,4,412,413,414,415,416,417,418] fun K hK=>?_
   simp only [go_sem,seval]
   refine hK _ (hN7_4 _ ?_)
   refine Aw_rd fun B7_5 hN7_5 hR7_5 hX7_5=>?_
   refine Aw_sq fun B8_5 hB8_5 hR8_5 hX8_5=>?_
   refine Aw_stP hE [4,5,6,26] [2,4,412,413,414,415,416,417,418] fun K hK=>?_
   simp only [go_sem,seval]
   refine hK _ (Aw_no rfl (Aw_exit (hX8_5 _ _ (hX7_5 _ _ (hE6 _ (hB5 _ ?_))))))
   refine Aw_frz hE rfl 417 7 rfl rfl ?_
   simp only [go_sem,seval]
   refine Aw_frz hE rfl 416 7 rfl rfl ?_
   simp only [go_sem,seval]
   refine Aw_frz hE rfl 415 7 rfl rfl ?_
   simp only [go_sem,seval]
   refine Aw_frz hE rfl 414 7 rfl rfl ?_
   simp only [go_sem,seval]
   refine Aw_frz hE rfl 413 7 rfl rfl ?_
   simp only [go_sem,seval]
   refine Aw_frz hE rfl 412 4 rfl rfl ?_
   simp only [go_sem,seval]
   refine Aw_st hE [4] [2,4,412,413,414,415,416,417,418] fun K hK=>?_
   simp only [go_sem,seval]
   refine ⟨ribL_p [oldG g1,oldG g2,oldG g3,oldG g4,oldG g5] (by simp),ribL_q [oldG g1,oldG g2,oldG g3,oldG g4,oldG g5] ?_⟩
   simp only [go_sem,seval]
   refine hK _ (Aw_ret (hQ _ ?_))
   simp only [go_sem,seval]
   all_goals rfl
 ·have hses:sesB h0 up l=[(600,[iv h0,bv up,.loc 601 0,iv ((6:Nat):Int)]),(601,gcs g1++[.loc 602 0]),(602,gcs g2++[.loc 603 0]),(603,gcs g3++[.loc 604 0]),(604,gcs g4++[.loc 605 0]),(605,gcs g5++[.loc 606 0]),(606,gcs g6++[.v (.pointer none)])]:=by rw [hl];rfl
  have hop:=fun (m1:List (Nat × List AV)) (K:AV→List (Nat × List AV)→Prop)=>open_postL hses m1 K
  refine Aw_st hE [1,4,5] [2,4,412,413,414,415,416,417,418] fun K hK=>?_
  simp only [go_sem,seval,↓hop]
  refine ⟨by decide,⟨hl6,hc.2⟩,?_⟩
  subst hl
  refine hK _ ?_;clear hK K
  refine Aw_st hE [1,4,5] [2,4,412,413,414,415,416,417,418] fun K hK=>?_
  simp only [go_sem,seval]
  refine hK _ ?_;clear hK K
  refine Aw_sq fun B3 hB3 hR3 hX3=>?_
  refine Aw_st hE [4,5,17] [2,4,412,413,414,415,416,417,418] fun K hK=>?_
  simp only [go_sem,seval]
  refine hK _ (Aw_cond rfl (fun hc4=>?_) (fun hc4=>?_))
  ·have hg:g=false:=by simpa using hc4
   subst hg
   refine Aw_tx hE [4,5] [2,4,412,413,414,415,416,417,418] fun K hK=>?_
   simp only [go_sem,seval]
   refine hK _ (hB3 _ ?_)
   refine Aw_sq fun B5 hB5 hR5 hX5=>?_
   refine Aw_st hE [4,5,6] [2,4,412,413,414,415,416,417,418] fun K hK=>?_
   simp only [go_sem,seval]
   refine hK _ ?_;clear hK K
   refine Aw_bk fun B6 hN6 hE6 hR6 hX6=>?_
   refine Aw_unr 1 (Aw_rd fun B7 hN7 hR7 hX7=>?_)
   refine Aw_sq fun B8 hB8 hR8 hX8=>?_
   refine Aw_stP hE [4,5,6,26] [2,4,412,413,414,415,416,417,418] fun K hK=>?_
   simp only [go_sem,seval]
   refine hK _ (Aw_no rfl (Aw_exit (hX8 _ _ (hX7 _ _ (hE6 _ (hB5 _ ?_))))))
   refine Aw_frz hE rfl 412 4 rfl rfl ?_
   simp only [go_sem,seval]
   refine Aw_st hE [4] [2,4,412,413,414,415,416,417,418] fun K hK=>?_
   simp only [go_sem,seval]
   refine ⟨ribL_p [] (by simp),ribL_q [] ?_⟩
   simp only [go_sem,seval]
   refine hK _ (Aw_ret (hQ _ ?_))
   simp only [go_sem,seval]
   all_goals rfl
  ·have hg:g=true:=by simpa using hc4
   subst hg
   refine Aw_skip (hB3 _ ?_)
   refine Aw_sq fun B5 hB5 hR5 hX5=>?_
   refine Aw_st hE [4,5,6] [2,4,412,413,414,415,416,417,418] fun K hK=>?_
   simp only [go_sem,seval]
   refine hK _ ?_;clear hK K
   refine Aw_bk fun B6 hN6 hE6 hR6 hX6=>?_
   refine Aw_unr 7 ?_
   refine Aw_rd fun B7_0 hN7_0 hR7_0 hX7_0=>?_
   refine Aw_sq fun B8_0 hB8_0 hR8_0 hX8_0=>?_
   refine Aw_stP hE [4,5,6,26] [2,4,412,413,414,415,416,417,418] fun K hK=>?_
   simp only [go_sem,seval]
   refine hK _ (Aw_yes rfl (Aw_skip (hB8_0 _ ?_)))
   refine Aw_sq fun B10_0 hB10_0 hR10_0 hX10_0=>?_
   refine Aw_bk fun B11_0 hN11_0 hE11_0 hR11_0 hX11_0=>?_
   refine Aw_tx hE [4,5,6] [2,4,412,413,414,415,416,417,418] fun K hK=>?_
   simp only [go_sem,seval]
   repeat refine ⟨by first|omega|(and_intros<;>first|omega|exact rows_row _|decide|(simp<;>omega))|fail,?_⟩
   refine hK _ (hN11_0 _ (hB10_0 _ ?_))
   refine Aw_tx hE [4,5,6] [2,4,412,413,414,415,416,417,418] fun K hK=>?_
   simp only [go_sem,seval]
   refine hK _ (hN7_0 _ ?_)
   refine Aw_rd fun B7_1 hN7_1 hR7_1 hX7_1=>?_
   refine Aw_sq fun B8_1 hB8_1 hR8_1 hX8_1=>?_
   refine Aw_stP hE [4,5,6,26] [2,4,412,413,414,415,416,417,418] fun K hK=>?_
   simp only [go_sem,seval]
   refine hK _ (Aw_yes rfl (Aw_skip (hB8_1 _ ?_)))
   refine Aw_sq fun B10_1 hB10_1 hR10_1 hX10_1=>?_
   refine Aw_bk fun B11_1 hN11_1 hE11_1 hR11_1 hX11_1=>?_
   refine Aw_tx hE [4,5,6] [2,4,412,413,414,415,416,417,418] fun K hK=>?_
   simp only [go_sem,seval]
   repeat refine ⟨by first|omega|(and_intros<;>first|omega|exact rows_row _|decide|(simp<;>omega))|fail,?_⟩
   refine hK _ (hN11_1 _ (hB10_1 _ ?_))
   refine Aw_tx hE [4,5,6] [2,4,412,413,414,415,416,417,418] fun K hK=>?_
   simp only [go_sem,seval]
   refine hK _ (hN7_1 _ ?_)
   refine Aw_rd fun B7_2 hN7_2 hR7_2 hX7_2=>?_
   refine Aw_sq fun B8_2 hB8_2 hR8_2 hX8_2=>?_
   refine Aw_stP hE [4,5,6,26] [2,4,412,413,414,415,416,417,418] fun K hK=>?_
   simp only [go_sem,seval]
   refine hK _ (Aw_yes rfl (Aw_skip (hB8_2 _ ?_)))
   refine Aw_sq fun B10_2 hB10_2 hR10_2 hX10_2=>?_
   refine Aw_bk fun B11_2 hN11_2 hE11_2 hR11_2 hX11_2=>?_
   refine Aw_tx hE [4,5,6] [2,4,412,413,414,415,416,417,418] fun K hK=>?_
   simp only [go_sem,seval]
   repeat refine ⟨by first|omega|(and_intros<;>first|omega|exact rows_row _|decide|(simp<;>omega))|fail,?_⟩
   refine hK _ (hN11_2 _ (hB10_2 _ ?_))
   refine Aw_tx hE [4,5,6] [2,4,412,413,414,415,416,417,418] fun K hK=>?_
   simp only [go_sem,seval]
   refine hK _ (hN7_2 _ ?_)
   refine Aw_rd fun B7_3 hN7_3 hR7_3 hX7_3=>?_
   refine Aw_sq fun B8_3 hB8_3 hR8_3 hX8_3=>?_
   refine Aw_stP hE [4,5,6,26] [2,4,412,413,414,415,416,417,418] fun K hK=>?_
   simp only [go_sem,seval]
   refine hK _ (Aw_yes rfl (Aw_skip (hB8_3 _ ?_)))
   refine Aw_sq fun B10_3 hB10_3 hR10_3 hX10_3=>?_
   refine Aw_bk fun B11_3 hN11_3 hE11_3 hR11_3 hX11_3=>?_
   refine Aw_tx hE [4,5,6] [2,4,412,413,414,415,416,417,418] fun K hK=>?_
   simp only [go_sem,seval]
   repeat refine ⟨by first|omega|(and_intros<;>first|omega|exact rows_row _|decide|(simp<;>omega))|fail,?_⟩
   refine hK _ (hN11_3 _ (hB10_3 _ ?_))
   refine Aw_tx hE [4,5,6] [2,4,412,413,414,415,416,417,418] fun K hK=>?_
   simp only [go_sem,seval]
   refine hK _ (hN7_3 _ ?_)
   refine Aw_rd fun B7_4 hN7_4 hR7_4 hX7_4=>?_
   refine Aw_sq fun B8_4 hB8_4 hR8_4 hX8_4=>?_
   refine Aw_stP hE [4,5,6,26] [2,4,412,413,414,415,416,417,418] fun K hK=>?_
   simp only [go_sem,seval]
   refine hK _ (Aw_yes rfl (Aw_skip (hB8_4 _ ?_)))
   refine Aw_sq fun B10_4 hB10_4 hR10_4 hX10_4=>?_
   refine Aw_bk fun B11_4 hN11_4 hE11_4 hR11_4 hX11_4=>?_
   refine Aw_tx hE [4,5,6] [2,4,412,413,414,415,416,417,418] fun K hK=>?_
   simp only [go_sem,seval]
   repeat refine ⟨by first|omega|(and_intros<;>first|omega|exact rows_row _|decide|(simp<;>omega))|fail,?_⟩
   refine hK _ (hN11_4 _ (hB10_4 _ ?_))
   refine Aw_tx hE [4,5,6] [2,4,412,413,414,415,416,417,418] fun K hK=>?_
   simp only [go_sem,seval]
   refine hK _ (hN7_4 _ ?_)
   refine Aw_rd fun B7_5 hN7_5 hR7_5 hX7_5=>?_
   refine Aw_sq fun B8_5 hB8_5 hR8_5 hX8_5=>?_
   refine Aw_stP hE [4,5,6,26] [2,4,412,413,414,415,416,417,418] fun K hK=>?_
   simp only [go_sem,seval]
   refine hK _ (Aw_yes rfl (Aw_skip (hB8_5 _ ?_)))
   refine Aw_sq fun B10_5 hB10_5 hR10_5 hX10_5=>?_
   refine Aw_bk fun B11_5 hN11_5 hE11_5 hR11_5 hX11_5=>?_
   refine Aw_tx hE [4,5,6] [2,4,412,413,414,415,416,417,418] fun K hK=>?_
   simp only [go_sem,seval]
   repeat refine ⟨by first|omega|(and_intros<;>first|omega|exact rows_row _|decide|(simp<;>omega))|fail,?_⟩
   refine hK _ (hN11_5 _ (hB10_5 _ ?_))
   refine Aw_tx hE [4,5,6] [2,4,412,413,414,415,416,417,418] fun K hK=>?_
   simp only [go_sem,seval]
   refine hK _ (hN7_5 _ ?_)
   refine Aw_rd fun B7_6 hN7_6 hR7_6 hX7_6=>?_
   refine Aw_sq fun B8_6 hB8_6 hR8_6 hX8_6=>?_
   refine Aw_stP hE [4,5,6,26] [2,4,412,413,414,415,416,417,418] fun K hK=>?_
   simp only [go_sem,seval]
   refine hK _ (Aw_no rfl (Aw_exit (hX8_6 _ _ (hX7_6 _ _ (hE6 _ (hB5 _ ?_))))))
   refine Aw_frz hE rfl 418 7 rfl rfl ?_
   simp only [go_sem,seval]
   refine Aw_frz hE rfl 417 7 rfl rfl ?_
   simp only [go_sem,seval]
   refine Aw_frz hE rfl 416 7 rfl rfl ?_
   simp only [go_sem,seval]
   refine Aw_frz hE rfl 415 7 rfl rfl ?_
   simp only [go_sem,seval]
   refine Aw_frz hE rfl 414 7 rfl rfl ?_
   simp only [go_sem,seval]
   refine Aw_frz hE rfl 413 7 rfl rfl ?_
   simp only [go_sem,seval]
   refine Aw_frz hE rfl 412 4 rfl rfl ?_
   simp only [go_sem,seval]
   refine Aw_st hE [4] [2,4,412,413,414,415,416,417,418] fun K hK=>?_
   simp only [go_sem,seval]
   refine ⟨ribL_p [oldG g1,oldG g2,oldG g3,oldG g4,oldG g5,oldG g6] (by simp),ribL_q [oldG g1,oldG g2,oldG g3,oldG g4,oldG g5,oldG g6] ?_⟩
   simp only [go_sem,seval]
   refine hK _ (Aw_ret (hQ _ ?_))
   simp only [go_sem,seval]
   all_goals rfl
end Go.Proofs.W
end
section
namespace Go.Proofs.W
open Go Go.Eng Go.RowKit
set_option linter.unusedSimpArgs false
set_option maxRecDepth 100000
/-! the link of a prefix,over lent boxes: 1000 the session,1001 and on the nodes -/
def skN (f b:Int):List Gt→Nat
 | []=>0
 | g::l=>if rCmp g.r.f g.r.b f b < 0 then skN f b l + 1 else 0
def skM (f b:Int):List (Nat × List AV)→Nat
 | (_,.v (.int .i64 f1)::.v (.int .i64 b1)::_)::ms=>if rCmp f1 b1 f b < 0 then skM f b ms + 1 else 0
 | _=>0
def lnkN:Nat→AV
 | 0=>.loc 1000 2
 | n + 1=>.loc (1001 + n) 6
theorem skM_nd (f b:Int):∀ (l:List Gt) (k:Nat),skM f b (ndB l k)=skN f b l
 | [],_=>rfl
 | g::l,k=>by
  show (if rCmp g.r.f g.r.b f b < 0 then skM f b (ndB l (k + 1)) + 1 else 0)=_
  rw [skM_nd f b l (k + 1)];rfl
def sesL (h:Int) (up:Bool) (l:List Gt) (n:Int):List (Nat × List AV):=(1000,[iv h,bv up,hdB l 1001,iv n])::ndB l 1001
attribute [go_sem] sesL
def cSeek:ConM:={
 pre:=fun args m1=>∃ (h:Int) (up:Bool) (l:List Gt) (n f b:Int),args=[.loc 1000 0,.agg [iv f,iv b]]∧m1=sesL h up l n∧l.length≤6∧(∀ g ∈ l,rngOk g.r.f g.r.b=true)∧rngOk f b=true
 post:=fun args m1 r m2=>m2=m1∧∀ f b:Int,args=[.loc 1000 0,.agg [iv f,iv b]]→r=lnkN (skM f b m1.tail) }
set_option maxHeartbeats 16000000 in
theorem seek_ok:FineM Tryz.prog 67 cSeek:=by
 refine fineM_of [] ms_nil [] mm_nil [] [] ex_nil (T:=TT) Tryz.func67 rfl Tryz.ntmps67 (by rw [Tryz.results67]) rfl rfl tt gs_nil (ds_cons iRgCmp_ok ds_nil) ?_
 rintro args m1 ⟨h0,up,l,n,f,b,rfl,rfl,hl6,hlg,hr⟩
 refine ⟨by simp,fun E hE Q hQ=>?_⟩
 have hpost:∀ (l':List Gt) (r:AV) m2,l=l'→m2=sesL h0 up l n→r=lnkN (skN f b l')→cSeek.post [.loc 1000 0,.agg [iv f,iv b]] (sesL h0 up l n) r m2:=by
  rintro l' r m2 rfl rfl rfl
  refine ⟨rfl,fun f' b' e=>?_⟩
  simp only [List.cons.injEq,AV.agg.injEq,AV.v.injEq,Value.int.injEq,and_true,true_and] at e
  obtain ⟨rfl,rfl⟩:=e
  simp only [sesL,List.tail_cons,skM_nd]
 rcases six hl6 with rfl | ⟨g1,rfl⟩ | ⟨g1,g2,rfl⟩ | ⟨g1,g2,g3,rfl⟩ | ⟨g1,g2,g3,g4,rfl⟩ | ⟨g1,g2,g3,g4,g5,rfl⟩ | ⟨g1,g2,g3,g4,g5,g6,rfl⟩
 ·refine Aw_st hE [0,3] [3,1000,1001,1002,1003,1004,1005,1006] fun K hK=>?_
  simp only [go_sem,seval]
  refine hK _ ?_;clear hK K
  refine Aw_st hE [3,5] [3,1000,1001,1002,1003,1004,1005,1006] fun K hK=>?_
  simp only [go_sem,seval]
  refine hK _ ?_;clear hK K
  refine Aw_sq fun B1 hB1 hR1 hX1=>?_
  refine Aw_bk fun B2 hN2 hE2 hR2 hX2=>?_
  refine Aw_unr 1 ?_
  refine Aw_rd fun B3_0 hN3_0 hR3_0 hX3_0=>?_
  refine Aw_sq fun B4_0 hB4_0 hR4_0 hX4_0=>?_
  refine Aw_sd hE [3,5,25] [3,1000,1001,1002,1003,1004,1005,1006] 6 (by kernel_rfl) fun K hK=>?_
  simp only [go_sem,seval]
  refine hK _ (Aw_no rfl (Aw_exit (hX4_0 _ _ (hX3_0 _ _ (hE2 _ (hB1 _ ?_))))))
  refine Aw_st hE [4] [3,1000,1001,1002,1003,1004,1005,1006] fun K hK=>?_
  simp only [go_sem,seval]
  refine hK _ ?_
  refine Aw.leE (Le_E (Le_ks [4] [1000])) ?_
  refine Aw_ret (hQ _ ?_)
  simp only [go_sem,seval]
  refine hpost [] _ _ rfl rfl ?_
  rw [show skN f b []=0 by simp [skN]]
  rfl
 ·refine Aw_st hE [0,3] [3,1000,1001,1002,1003,1004,1005,1006] fun K hK=>?_
  simp only [go_sem,seval]
  refine hK _ ?_;clear hK K
  refine Aw_st hE [3,5] [3,1000,1001,1002,1003,1004,1005,1006] fun K hK=>?_
  simp only [go_sem,seval]
  refine hK _ ?_;clear hK K
  refine Aw_sq fun B1 hB1 hR1 hX1=>?_
  refine Aw_bk fun B2 hN2 hE2 hR2 hX2=>?_
  refine Aw_unr 2 ?_
  refine Aw_rd fun B3_0 hN3_0 hR3_0 hX3_0=>?_
  refine Aw_sq fun B4_0 hB4_0 hR4_0 hX4_0=>?_
  have hr_0:=hlg g1 (by simp)
  refine Aw_sd hE [3,5,25] [3,1000,1001,1002,1003,1004,1005,1006] 6 (by kernel_rfl) fun K hK=>?_
  simp only [go_sem,seval,hr_0,hr,Bool.and_self,if_true]
  refine hK _ (Aw_cond rfl (fun hc_0=>?_) (fun hc_0=>?_))
  rotate_left
  ·simp only [decide_eq_false_iff_not] at hc_0
   refine Aw_exit (hX4_0 _ _ (hX3_0 _ _ (hE2 _ (hB1 _ ?_))))
   refine Aw_st hE [4] [3,1000,1001,1002,1003,1004,1005,1006] fun K hK=>?_
   simp only [go_sem,seval]
   refine hK _ ?_
   refine Aw.leE (Le_E (Le_ks [4] [1000,1001])) ?_
   refine Aw_ret (hQ _ ?_)
   simp only [go_sem,seval]
   refine hpost [g1] _ _ rfl rfl ?_
   rw [show skN f b [g1]=0 by simp [skN,hc_0]]
   rfl
  simp only [decide_eq_true_eq] at hc_0
  refine Aw_skip (hB4_0 _ ?_)
  refine Aw_bk fun B5_0 hN5_0 hE5_0 hR5_0 hX5_0=>?_
  refine Aw_tx hE [3,5] [3,1000,1001,1002,1003,1004,1005,1006] fun K hK=>?_
  simp only [go_sem,seval]
  refine hK _ (hN5_0 _ (hN3_0 _ ?_))
  refine Aw_rd fun B3_1 hN3_1 hR3_1 hX3_1=>?_
  refine Aw_sq fun B4_1 hB4_1 hR4_1 hX4_1=>?_
  refine Aw_sd hE [3,5,25] [3,1000,1001,1002,1003,1004,1005,1006] 6 (by kernel_rfl) fun K hK=>?_
  simp only [go_sem,seval]
  refine hK _ (Aw_no rfl (Aw_exit (hX4_1 _ _ (hX3_1 _ _ (hE2 _ (hB1 _ ?_))))))
  refine Aw_st hE [4] [3,1000,1001,1002,1003,1004,1005,1006] fun K hK=>?_
  simp only [go_sem,seval]
  refine hK _ ?_
  refine Aw.leE (Le_E (Le_ks [4] [1000,1001])) ?_
  refine Aw_ret (hQ _ ?_)
  simp only [go_sem,seval]
  refine hpost [g1] _ _ rfl rfl ?_
  rw [show skN f b [g1]=1 by simp [skN,hc_0]]
  rfl
 ·refine Aw_st hE [0,3] [3,1000,1001,1002,1003,1004,1005,1006] fun K hK=>?_
  simp only [go_sem,seval]
  refine hK _ ?_;clear hK K
  refine Aw_st hE [3,5] [3,1000,1001,1002,1003,1004,1005,1006] fun K hK=>?_
  simp only [go_sem,seval]
  refine hK _ ?_;clear hK K
  refine Aw_sq fun B1 hB1 hR1 hX1=>?_
  refine Aw_bk fun B2 hN2 hE2 hR2 hX2=>?_
  refine Aw_unr 3 ?_
  refine Aw_rd fun B3_0 hN3_0 hR3_0 hX3_0=>?_
  refine Aw_sq fun B4_0 hB4_0 hR4_0 hX4_0=>?_
  have hr_0:=hlg g1 (by simp)
  refine Aw_sd hE [3,5,25] [3,1000,1001,1002,1003,1004,1005,1006] 6 (by kernel_rfl) fun K hK=>?_
  simp only [go_sem,seval,hr_0,hr,Bool.and_self,if_true]
  refine hK _ (Aw_cond rfl (fun hc_0=>?_) (fun hc_0=>?_))
  rotate_left
  ·simp only [decide_eq_false_iff_not] at hc_0
   refine Aw_exit (hX4_0 _ _ (hX3_0 _ _ (hE2 _ (hB1 _ ?_))))
   refine Aw_st hE [4] [3,1000,1001,1002,1003,1004,1005,1006] fun K hK=>?_
   simp only [go_sem,seval]
   refine hK _ ?_
   refine Aw.leE (Le_E (Le_ks [4] [1000,1001,1002])) ?_
   refine Aw_ret (hQ _ ?_)
   simp only [go_sem,seval]
   refine hpost [g1,g2] _ _ rfl rfl ?_
   rw [show skN f b [g1,g2]=0 by simp [skN,hc_0]]
   rfl
  simp only [decide_eq_true_eq] at hc_0
  refine Aw_skip (hB4_0 _ ?_)
  refine Aw_bk fun B5_0 hN5_0 hE5_0 hR5_0 hX5_0=>?_
  refine Aw_tx hE [3,5] [3,1000,1001,1002,1003,1004,1005,1006] fun K hK=>?_
  simp only [go_sem,seval]
  refine hK _ (hN5_0 _ (hN3_0 _ ?_))
  refine Aw_rd fun B3_1 hN3_1 hR3_1 hX3_1=>?_
  refine Aw_sq fun B4_1 hB4_1 hR4_1 hX4_1=>?_
  have hr_1:=hlg g2 (by simp)
  refine Aw_sd hE [3,5,25] [3,1000,1001,1002,1003,1004,1005,1006] 6 (by kernel_rfl) fun K hK=>?_
  simp only [go_sem,seval,hr_1,hr,Bool.and_self,if_true]
  refine hK _ (Aw_cond rfl (fun hc_1=>?_) (fun hc_1=>?_))
  rotate_left
  ·simp only [decide_eq_false_iff_not] at hc_1
   refine Aw_exit (hX4_1 _ _ (hX3_1 _ _ (hE2 _ (hB1 _ ?_))))
   refine Aw_st hE [4] [3,1000,1001,1002,1003,1004,1005,1006] fun K hK=>?_
   simp only [go_sem,seval]
   refine hK _ ?_
   refine Aw.leE (Le_E (Le_ks [4] [1000,1001,1002])) ?_
   refine Aw_ret (hQ _ ?_)
   simp only [go_sem,seval]
   refine hpost [g1,g2] _ _ rfl rfl ?_
   rw [show skN f b [g1,g2]=1 by simp [skN,hc_0,hc_1]]
   rfl
  simp only [decide_eq_true_eq] at hc_1
  refine Aw_skip (hB4_1 _ ?_)
  refine Aw_bk fun B5_1 hN5_1 hE5_1 hR5_1 hX5_1=>?_
  refine Aw_tx hE [3,5] [3,1000,1001,1002,1003,1004,1005,1006] fun K hK=>?_
  simp only [go_sem,seval]
  refine hK _ (hN5_1 _ (hN3_1 _ ?_))
  refine Aw_rd fun B3_2 hN3_2 hR3_2 hX3_2=>?_
  refine Aw_sq fun B4_2 hB4_2 hR4_2 hX4_2=>?_
  refine Aw_sd hE [3,5,25] [3,1000,1001,1002,1003,1004,1005,1006] 6 (by kernel_rfl) fun K hK=>?_
  simp only [go_sem,seval]
  refine hK _ (Aw_no rfl (Aw_exit (hX4_2 _ _ (hX3_2 _ _ (hE2 _ (hB1 _ ?_))))))
  refine Aw_st hE [4] [3,1000,1001,1002,1003,1004,1005,1006] fun K hK=>?_
  simp only [go_sem,seval]
  refine hK _ ?_
  refine Aw.leE (Le_E (Le_ks [4] [1000,1001,1002])) ?_
  refine Aw_ret (hQ _ ?_)
  simp only [go_sem,seval]
  refine hpost [g1,g2] _ _ rfl rfl ?_
  rw [show skN f b [g1,g2]=2 by simp [skN,hc_0,hc_1]]
  rfl
 ·refine Aw_st hE [0,3] [3,1000,1001,1002,1003,1004,1005,1006] fun K hK=>?_
  simp only [go_sem,seval]
  refine hK _ ?_;clear hK K
  refine Aw_st hE [3,5] [3,1000,1001,1002,1003,1004,1005,1006] fun K hK=>?_
  simp only [go_sem,seval]
  refine hK _ ?_;clear hK K
  refine Aw_sq fun B1 hB1 hR1 hX1=>?_
  refine Aw_bk fun B2 hN2 hE2 hR2 hX2=>?_
  refine Aw_unr 4 ?_
  refine Aw_rd fun B3_0 hN3_0 hR3_0 hX3_0=>?_
  refine Aw_sq fun B4_0 hB4_0 hR4_0 hX4_0=>?_
  have hr_0:=hlg g1 (by simp)
  refine Aw_sd hE [3,5,25] [3,1000,1001,1002,1003,1004,1005,1006] 6 (by kernel_rfl) fun K hK=>?_
  simp only [go_sem,seval,hr_0,hr,Bool.and_self,if_true]
  refine hK _ (Aw_cond rfl (fun hc_0=>?_) (fun hc_0=>?_))
  rotate_left
  ·simp only [decide_eq_false_iff_not] at hc_0
   refine Aw_exit (hX4_0 _ _ (hX3_0 _ _ (hE2 _ (hB1 _ ?_))))
   refine Aw_st hE [4] [3,1000,1001,1002,1003,1004,1005,1006] fun K hK=>?_
   simp only [go_sem,seval]
   refine hK _ ?_
   refine Aw.leE (Le_E (Le_ks [4] [1000,1001,1002,1003])) ?_
   refine Aw_ret (hQ _ ?_)
   simp only [go_sem,seval]
   refine hpost [g1,g2,g3] _ _ rfl rfl ?_
   rw [show skN f b [g1,g2,g3]=0 by simp [skN,hc_0]]
   rfl
  simp only [decide_eq_true_eq] at hc_0
  refine Aw_skip (hB4_0 _ ?_)
  refine Aw_bk fun B5_0 hN5_0 hE5_0 hR5_0 hX5_0=>?_
  refine Aw_tx hE [3,5] [3,1000,1001,1002,1003,1004,1005,1006] fun K hK=>?_
  simp only [go_sem,seval]
  refine hK _ (hN5_0 _ (hN3_0 _ ?_))
  refine Aw_rd fun B3_1 hN3_1 hR3_1 hX3_1=>?_
  refine Aw_sq fun B4_1 hB4_1 hR4_1 hX4_1=>?_
  have hr_1:=hlg g2 (by simp)
  refine Aw_sd hE [3,5,25] [3,1000,1001,1002,1003,1004,1005,1006] 6 (by kernel_rfl) fun K hK=>?_
  simp only [go_sem,seval,hr_1,hr,Bool.and_self,if_true]
  refine hK _ (Aw_cond rfl (fun hc_1=>?_) (fun hc_1=>?_))
  rotate_left
  ·simp only [decide_eq_false_iff_not] at hc_1
   refine Aw_exit (hX4_1 _ _ (hX3_1 _ _ (hE2 _ (hB1 _ ?_))))
   refine Aw_st hE [4] [3,1000,1001,1002,1003,1004,1005,1006] fun K hK=>?_
   simp only [go_sem,seval]
   refine hK _ ?_
   refine Aw.leE (Le_E (Le_ks [4] [1000,1001,1002,1003])) ?_
   refine Aw_ret (hQ _ ?_)
   simp only [go_sem,seval]
   refine hpost [g1,g2,g3] _ _ rfl rfl ?_
   rw [show skN f b [g1,g2,g3]=1 by simp [skN,hc_0,hc_1]]
   rfl
  simp only [decide_eq_true_eq] at hc_1
  refine Aw_skip (hB4_1 _ ?_)
  refine Aw_bk fun B5_1 hN5_1 hE5_1 hR5_1 hX5_1=>?_
  refine Aw_tx hE [3,5] [3,1000,1001,1002,1003,1004,1005,1006] fun K hK=>?_
  simp only [go_sem,seval]
  refine hK _ (hN5_1 _ (hN3_1 _ ?_))
  refine Aw_rd fun B3_2 hN3_2 hR3_2 hX3_2=>?_
  refine Aw_sq fun B4_2 hB4_2 hR4_2 hX4_2=>?_
  have hr_2:=hlg g3 (by simp)
  refine Aw_sd hE [3,5,25] [3,1000,1001,1002,1003,1004,1005,1006] 6 (by kernel_rfl) fun K hK=>?_
  simp only [go_sem,seval,hr_2,hr,Bool.and_self,if_true]
  refine hK _ (Aw_cond rfl (fun hc_2=>?_) (fun hc_2=>?_))
  rotate_left
  ·simp only [decide_eq_false_iff_not] at hc_2
   refine Aw_exit (hX4_2 _ _ (hX3_2 _ _ (hE2 _ (hB1 _ ?_))))
   refine Aw_st hE [4] [3,1000,1001,1002,1003,1004,1005,1006] fun K hK=>?_
   simp only [go_sem,seval]
   refine hK _ ?_
   refine Aw.leE (Le_E (Le_ks [4] [1000,1001,1002,1003])) ?_
   refine Aw_ret (hQ _ ?_)
   simp only [go_sem,seval]
   refine hpost [g1,g2,g3] _ _ rfl rfl ?_
   rw [show skN f b [g1,g2,g3]=2 by simp [skN,hc_0,hc_1,hc_2]]
   rfl
  simp only [decide_eq_true_eq] at hc_2
  refine Aw_skip (hB4_2 _ ?_)
  refine Aw_bk fun B5_2 hN5_2 hE5_2 hR5_2 hX5_2=>?_
  refine Aw_tx hE [3,5] [3,1000,1001,1002,1003,1004,1005,1006] fun K hK=>?_
  simp only [go_sem,seval]
  refine hK _ (hN5_2 _ (hN3_2 _ ?_))
  refine Aw_rd fun B3_3 hN3_3 hR3_3 hX3_3=>?_
  refine Aw_sq fun B4_3 hB4_3 hR4_3 hX4_3=>?_
  refine Aw_sd hE [3,5,25] [3,1000,1001,1002,1003,1004,1005,1006] 6 (by kernel_rfl) fun K hK=>?_
  simp only [go_sem,seval]
  refine hK _ (Aw_no rfl (Aw_exit (hX4_3 _ _ (hX3_3 _ _ (hE2 _ (hB1 _ ?_))))))
  refine Aw_st hE [4] [3,1000,1001,1002,1003,1004,1005,1006] fun K hK=>?_
  simp only [go_sem,seval]
  refine hK _ ?_
  refine Aw.leE (Le_E (Le_ks [4] [1000,1001,1002,1003])) ?_
  refine Aw_ret (hQ _ ?_)
  simp only [go_sem,seval]
  refine hpost [g1,g2,g3] _ _ rfl rfl ?_
  rw [show skN f b [g1,g2,g3]=3 by simp [skN,hc_0,hc_1,hc_2]]
  rfl
 ·refine Aw_st hE [0,3] [3,1000,1001,1002,1003,1004,1005,1006] fun K hK=>?_
  simp only [go_sem,seval]
  refine hK _ ?_;clear hK K
  refine Aw_st hE [3,5] [3,1000,1001,1002,1003,1004,1005,1006] fun K hK=>?_
  simp only [go_sem,seval]
  refine hK _ ?_;clear hK K
  refine Aw_sq fun B1 hB1 hR1 hX1=>?_
  refine Aw_bk fun B2 hN2 hE2 hR2 hX2=>?_
  refine Aw_unr 5 ?_
  refine Aw_rd fun B3_0 hN3_0 hR3_0 hX3_0=>?_
  refine Aw_sq fun B4_0 hB4_0 hR4_0 hX4_0=>?_
  have hr_0:=hlg g1 (by simp)
  refine Aw_sd hE [3,5,25] [3,1000,1001,1002,1003,1004,1005,1006] 6 (by kernel_rfl) fun K hK=>?_
  simp only [go_sem,seval,hr_0,hr,Bool.and_self,if_true]
  refine hK _ (Aw_cond rfl (fun hc_0=>?_) (fun hc_0=>?_))
  rotate_left
  ·simp only [decide_eq_false_iff_not] at hc_0
   refine Aw_exit (hX4_0 _ _ (hX3_0 _ _ (hE2 _ (hB1 _ ?_))))
   refine Aw_st hE [4] [3,1000,1001,1002,1003,1004,1005,1006] fun K hK=>?_
   simp only [go_sem,seval]
   refine hK _ ?_
   refine Aw.leE (Le_E (Le_ks [4] [1000,1001,1002,1003,1004])) ?_
   refine Aw_ret (hQ _ ?_)
   simp only [go_sem,seval]
   refine hpost [g1,g2,g3,g4] _ _ rfl rfl ?_
   rw [show skN f b [g1,g2,g3,g4]=0 by simp [skN,hc_0]]
   rfl
  simp only [decide_eq_true_eq] at hc_0
  refine Aw_skip (hB4_0 _ ?_)
  refine Aw_bk fun B5_0 hN5_0 hE5_0 hR5_0 hX5_0=>?_
  refine Aw_tx hE [3,5] [3,1000,1001,1002,1003,1004,1005,1006] fun K hK=>?_
  simp only [go_sem,seval]
  refine hK _ (hN5_0 _ (hN3_0 _ ?_))
  refine Aw_rd fun B3_1 hN3_1 hR3_1 hX3_1=>?_
  refine Aw_sq fun B4_1 hB4_1 hR4_1 hX4_1=>?_
  have hr_1:=hlg g2 (by simp)
  refine Aw_sd hE [3,5,25] [3,1000,1001,1002,1003,1004,1005,1006] 6 (by kernel_rfl) fun K hK=>?_
  simp only [go_sem,seval,hr_1,hr,Bool.and_self,if_true]
  refine hK _ (Aw_cond rfl (fun hc_1=>?_) (fun hc_1=>?_))
  rotate_left
  ·simp only [decide_eq_false_iff_not] at hc_1
   refine Aw_exit (hX4_1 _ _ (hX3_1 _ _ (hE2 _ (hB1 _ ?_))))
   refine Aw_st hE [4] [3,1000,1001,1002,1003,1004,1005,1006] fun K hK=>?_
   simp only [go_sem,seval]
   refine hK _ ?_
   refine Aw.leE (Le_E (Le_ks [4] [1000,1001,1002,1003,1004])) ?_
   refine Aw_ret (hQ _ ?_)
   simp only [go_sem,seval]
   refine hpost [g1,g2,g3,g4] _ _ rfl rfl ?_
   rw [show skN f b [g1,g2,g3,g4]=1 by simp [skN,hc_0,hc_1]]
   rfl
  simp only [decide_eq_true_eq] at hc_1
  refine Aw_skip (hB4_1 _ ?_)
  refine Aw_bk fun B5_1 hN5_1 hE5_1 hR5_1 hX5_1=>?_
  refine Aw_tx hE [3,5] [3,1000,1001,1002,1003,1004,1005,1006] fun K hK=>?_
  simp only [go_sem,seval]
  refine hK _ (hN5_1 _ (hN3_1 _ ?_))
  refine Aw_rd fun B3_2 hN3_2 hR3_2 hX3_2=>?_
  refine Aw_sq fun B4_2 hB4_2 hR4_2 hX4_2=>?_
  have hr_2:=hlg g3 (by simp)
  refine Aw_sd hE [3,5,25] [3,1000,1001,1002,1003,1004,1005,1006] 6 (by kernel_rfl) fun K hK=>?_
  simp only [go_sem,seval,hr_2,hr,Bool.and_self,if_true]
  refine hK _ (Aw_cond rfl (fun hc_2=>?_) (fun hc_2=>?_))
  rotate_left
  ·simp only [decide_eq_false_iff_not] at hc_2
   refine Aw_exit (hX4_2 _ _ (hX3_2 _ _ (hE2 _ (hB1 _ ?_))))
   refine Aw_st hE [4] [3,1000,1001,1002,1003,1004,1005,1006] fun K hK=>?_
   simp only [go_sem,seval]
   refine hK _ ?_
   refine Aw.leE (Le_E (Le_ks [4] [1000,1001,1002,1003,1004])) ?_
   refine Aw_ret (hQ _ ?_)
   simp only [go_sem,seval]
   refine hpost [g1,g2,g3,g4] _ _ rfl rfl ?_
   rw [show skN f b [g1,g2,g3,g4]=2 by simp [skN,hc_0,hc_1,hc_2]]
   rfl
  simp only [decide_eq_true_eq] at hc_2
  refine Aw_skip (hB4_2 _ ?_)
  refine Aw_bk fun B5_2 hN5_2 hE5_2 hR5_2 hX5_2=>?_
  refine Aw_tx hE [3,5] [3,1000,1001,1002,1003,1004,1005,1006] fun K hK=>?_
  simp only [go_sem,seval]
  refine hK _ (hN5_2 _ (hN3_2 _ ?_))
  refine Aw_rd fun B3_3 hN3_3 hR3_3 hX3_3=>?_
  refine Aw_sq fun B4_3 hB4_3 hR4_3 hX4_3=>?_
  have hr_3:=hlg g4 (by simp)
  refine Aw_sd hE [3,5,25] [3,1000,1001,1002,1003,1004,1005,1006] 6 (by kernel_rfl) fun K hK=>?_
  simp only [go_sem,seval,hr_3,hr,Bool.and_self,if_true]
  refine hK _ (Aw_cond rfl (fun hc_3=>?_) (fun hc_3=>?_))
  rotate_left
  ·simp only [decide_eq_false_iff_not] at hc_3
   refine Aw_exit (hX4_3 _ _ (hX3_3 _ _ (hE2 _ (hB1 _ ?_))))
   refine Aw_st hE [4] [3,1000,1001,1002,1003,1004,1005,1006] fun K hK=>?_
   simp only [go_sem,seval]
   refine hK _ ?_
   refine Aw.leE (Le_E (Le_ks [4] [1000,1001,1002,1003,1004])) ?_
   refine Aw_ret (hQ _ ?_)
   simp only [go_sem,seval]
   refine hpost [g1,g2,g3,g4] _ _ rfl rfl ?_
   rw [show skN f b [g1,g2,g3,g4]=3 by simp [skN,hc_0,hc_1,hc_2,hc_3]]
   rfl
  simp only [decide_eq_true_eq] at hc_3
  refine Aw_skip (hB4_3 _ ?_)
  refine Aw_bk fun B5_3 hN5_3 hE5_3 hR5_3 hX5_3=>?_
  refine Aw_tx hE [3,5] [3,1000,1001,1002,1003,1004,1005,1006] fun K hK=>?_
  simp only [go_sem,seval]
  refine hK _ (hN5_3 _ (hN3_3 _ ?_))
  refine Aw_rd fun B3_4 hN3_4 hR3_4 hX3_4=>?_
  refine Aw_sq fun B4_4 hB4_4 hR4_4 hX4_4=>?_
  refine Aw_sd hE [3,5,25] [3,1000,1001,1002,1003,1004,1005,1006] 6 (by kernel_rfl) fun K hK=>?_
  simp only [go_sem,seval]
  refine hK _ (Aw_no rfl (Aw_exit (hX4_4 _ _ (hX3_4 _ _ (hE2 _ (hB1 _ ?_))))))
  refine Aw_st hE [4] [3,1000,1001,1002,1003,1004,1005,1006] fun K hK=>?_
  simp only [go_sem,seval]
  refine hK _ ?_
  refine Aw.leE (Le_E (Le_ks [4] [1000,1001,1002,1003,1004])) ?_
  refine Aw_ret (hQ _ ?_)
  simp only [go_sem,seval]
  refine hpost [g1,g2,g3,g4] _ _ rfl rfl ?_
  rw [show skN f b [g1,g2,g3,g4]=4 by simp [skN,hc_0,hc_1,hc_2,hc_3]]
  rfl
 ·refine Aw_st hE [0,3] [3,1000,1001,1002,1003,1004,1005,1006] fun K hK=>?_
  simp only [go_sem,seval]
  refine hK _ ?_;clear hK K
  refine Aw_st hE [3,5] [3,1000,1001,1002,1003,1004,1005,1006] fun K hK=>?_
  simp only [go_sem,seval]
  refine hK _ ?_;clear hK K
  refine Aw_sq fun B1 hB1 hR1 hX1=>?_
  refine Aw_bk fun B2 hN2 hE2 hR2 hX2=>?_
  refine Aw_unr 6 ?_
  refine Aw_rd fun B3_0 hN3_0 hR3_0 hX3_0=>?_
  refine Aw_sq fun B4_0 hB4_0 hR4_0 hX4_0=>?_
  have hr_0:=hlg g1 (by simp)
  refine Aw_sd hE [3,5,25] [3,1000,1001,1002,1003,1004,1005,1006] 6 (by kernel_rfl) fun K hK=>?_
  simp only [go_sem,seval,hr_0,hr,Bool.and_self,if_true]
  refine hK _ (Aw_cond rfl (fun hc_0=>?_) (fun hc_0=>?_))
  rotate_left
  ·simp only [decide_eq_false_iff_not] at hc_0
   refine Aw_exit (hX4_0 _ _ (hX3_0 _ _ (hE2 _ (hB1 _ ?_))))
   refine Aw_st hE [4] [3,1000,1001,1002,1003,1004,1005,1006] fun K hK=>?_
   simp only [go_sem,seval]
   refine hK _ ?_
   refine Aw.leE (Le_E (Le_ks [4] [1000,1001,1002,1003,1004,1005])) ?_
   refine Aw_ret (hQ _ ?_)
   simp only [go_sem,seval]
   refine hpost [g1,g2,g3,g4,g5] _ _ rfl rfl ?_
   rw [show skN f b [g1,g2,g3,g4,g5]=0 by simp [skN,hc_0]]
   rfl
  simp only [decide_eq_true_eq] at hc_0
  refine Aw_skip (hB4_0 _ ?_)
  refine Aw_bk fun B5_0 hN5_0 hE5_0 hR5_0 hX5_0=>?_
  refine Aw_tx hE [3,5] [3,1000,1001,1002,1003,1004,1005,1006] fun K hK=>?_
  simp only [go_sem,seval]
  refine hK _ (hN5_0 _ (hN3_0 _ ?_))
  refine Aw_rd fun B3_1 hN3_1 hR3_1 hX3_1=>?_
  refine Aw_sq fun B4_1 hB4_1 hR4_1 hX4_1=>?_
  have hr_1:=hlg g2 (by simp)
  refine Aw_sd hE [3,5,25] [3,1000,1001,1002,1003,1004,1005,1006] 6 (by kernel_rfl) fun K hK=>?_
  simp only [go_sem,seval,hr_1,hr,Bool.and_self,if_true]
  refine hK _ (Aw_cond rfl (fun hc_1=>?_) (fun hc_1=>?_))
  rotate_left
  ·simp only [decide_eq_false_iff_not] at hc_1
   refine Aw_exit (hX4_1 _ _ (hX3_1 _ _ (hE2 _ (hB1 _ ?_))))
   refine Aw_st hE [4] [3,1000,1001,1002,1003,1004,1005,1006] fun K hK=>?_
   simp only [go_sem,seval]
   refine hK _ ?_
   refine Aw.leE (Le_E (Le_ks [4] [1000,1001,1002,1003,1004,1005])) ?_
   refine Aw_ret (hQ _ ?_)
   simp only [go_sem,seval]
   refine hpost [g1,g2,g3,g4,g5] _ _ rfl rfl ?_
   rw [show skN f b [g1,g2,g3,g4,g5]=1 by simp [skN,hc_0,hc_1]]
   rfl
  simp only [decide_eq_true_eq] at hc_1
  refine Aw_skip (hB4_1 _ ?_)
  refine Aw_bk fun B5_1 hN5_1 hE5_1 hR5_1 hX5_1=>?_
  refine Aw_tx hE [3,5] [3,1000,1001,1002,1003,1004,1005,1006] fun K hK=>?_
  simp only [go_sem,seval]
  refine hK _ (hN5_1 _ (hN3_1 _ ?_))
  refine Aw_rd fun B3_2 hN3_2 hR3_2 hX3_2=>?_
  refine Aw_sq fun B4_2 hB4_2 hR4_2 hX4_2=>?_
  have hr_2:=hlg g3 (by simp)
  refine Aw_sd hE [3,5,25] [3,1000,1001,1002,1003,1004,1005,1006] 6 (by kernel_rfl) fun K hK=>?_
  simp only [go_sem,seval,hr_2,hr,Bool.and_self,if_true]
  refine hK _ (Aw_cond rfl (fun hc_2=>?_) (fun hc_2=>?_))
  rotate_left
  ·simp only [decide_eq_false_iff_not] at hc_2
   refine Aw_exit (hX4_2 _ _ (hX3_2 _ _ (hE2 _ (hB1 _ ?_))))
   refine Aw_st hE [4] [3,1000,1001,1002,1003,1004,1005,1006] fun K hK=>?_
   simp only [go_sem,seval]
   refine hK _ ?_
   refine Aw.leE (Le_E (Le_ks [4] [1000,1001,1002,1003,1004,1005])) ?_
   refine Aw_ret (hQ _ ?_)
   simp only [go_sem,seval]
   refine hpost [g1,g2,g3,g4,g5] _ _ rfl rfl ?_
   rw [show skN f b [g1,g2,g3,g4,g5]=2 by simp [skN,hc_0,hc_1,hc_2]]
   rfl
  simp only [decide_eq_true_eq] at hc_2
  refine Aw_skip (hB4_2 _ ?_)
  refine Aw_bk fun B5_2 hN5_2 hE5_2 hR5_2 hX5_2=>?_
  refine Aw_tx hE [3,5] [3,1000,1001,1002,1003,1004,1005,1006] fun K hK=>?_
  simp only [go_sem,seval]
  refine hK _ (hN5_2 _ (hN3_2 _ ?_))
  refine Aw_rd fun B3_3 hN3_3 hR3_3 hX3_3=>?_
  refine Aw_sq fun B4_3 hB4_3 hR4_3 hX4_3=>?_
  have hr_3:=hlg g4 (by simp)
  refine Aw_sd hE [3,5,25] [3,1000,1001,1002,1003,1004,1005,1006] 6 (by kernel_rfl) fun K hK=>?_
  simp only [go_sem,seval,hr_3,hr,Bool.and_self,if_true]
  refine hK _ (Aw_cond rfl (fun hc_3=>?_) (fun hc_3=>?_))
  rotate_left
  ·simp only [decide_eq_false_iff_not] at hc_3
   refine Aw_exit (hX4_3 _ _ (hX3_3 _ _ (hE2 _ (hB1 _ ?_))))
   refine Aw_st hE [4] [3,1000,1001,1002,1003,1004,1005,1006] fun K hK=>?_
   simp only [go_sem,seval]
   refine hK _ ?_
   refine Aw.leE (Le_E (Le_ks [4] [1000,1001,1002,1003,1004,1005])) ?_
   refine Aw_ret (hQ _ ?_)
   simp only [go_sem,seval]
   refine hpost [g1,g2,g3,g4,g5] _ _ rfl rfl ?_
   rw [show skN f b [g1,g2,g3,g4,g5]=3 by simp [skN,hc_0,hc_1,hc_2,hc_3]]
   rfl
  simp only [decide_eq_true_eq] at hc_3
  refine Aw_skip (hB4_3 _ ?_)
  refine Aw_bk fun B5_3 hN5_3 hE5_3 hR5_3 hX5_3=>?_
  refine Aw_tx hE [3,5] [3,1000,1001,1002,1003,1004,1005,1006] fun K hK=>?_
  simp only [go_sem,seval]
  refine hK _ (hN5_3 _ (hN3_3 _ ?_))
  refine Aw_rd fun B3_4 hN3_4 hR3_4 hX3_4=>?_
  refine Aw_sq fun B4_4 hB4_4 hR4_4 hX4_4=>?_
  have hr_4:=hlg g5 (by simp)
  refine Aw_sd hE [3,5,25] [3,1000,1001,1002,1003,1004,1005,1006] 6 (by kernel_rfl) fun K hK=>?_
  simp only [go_sem,seval,hr_4,hr,Bool.and_self,if_true]
  refine hK _ (Aw_cond rfl (fun hc_4=>?_) (fun hc_4=>?_))
  rotate_left
  ·simp only [decide_eq_false_iff_not] at hc_4
   refine Aw_exit (hX4_4 _ _ (hX3_4 _ _ (hE2 _ (hB1 _ ?_))))
   refine Aw_st hE [4] [3,1000,1001,1002,1003,1004,1005,1006] fun K hK=>?_
   simp only [go_sem,seval]
   refine hK _ ?_
   refine Aw.leE (Le_E (Le_ks [4] [1000,1001,1002,1003,1004,1005])) ?_
   refine Aw_ret (hQ _ ?_)
   simp only [go_sem,seval]
   refine hpost [g1,g2,g3,g4,g5] _ _ rfl rfl ?_
   rw [show skN f b [g1,g2,g3,g4,g5]=4 by simp [skN,hc_0,hc_1,hc_2,hc_3,hc_4]]
   rfl
  simp only [decide_eq_true_eq] at hc_4
  refine Aw_skip (hB4_4 _ ?_)
  refine Aw_bk fun B5_4 hN5_4 hE5_4 hR5_4 hX5_4=>?_
  refine Aw_tx hE [3,5] [3,1000,1001,1002,1003,1004,1005,1006] fun K hK=>?_
  simp only [go_sem,seval]
  refine hK _ (hN5_4 _ (hN3_4 _ ?_))
  refine Aw_rd fun B3_5 hN3_5 hR3_5 hX3_5=>?_
  refine Aw_sq fun B4_5 hB4_5 hR4_5 hX4_5=>?_
  refine Aw_sd hE [3,5,25] [3,1000,1001,1002,1003,1004,1005,1006] 6 (by kernel_rfl) fun K hK=>?_
  simp only [go_sem,seval]
  refine hK _ (Aw_no rfl (Aw_exit (hX4_5 _ _ (hX3_5 _ _ (hE2 _ (hB1 _ ?_))))))
  refine Aw_st hE [4] [3,1000,1001,1002,1003,1004,1005,1006] fun K hK=>?_
  simp only [go_sem,seval]
  refine hK _ ?_
  refine Aw.leE (Le_E (Le_ks [4] [1000,1001,1002,1003,1004,1005])) ?_
  refine Aw_ret (hQ _ ?_)
  simp only [go_sem,seval]
  refine hpost [g1,g2,g3,g4,g5] _ _ rfl rfl ?_
  rw [show skN f b [g1,g2,g3,g4,g5]=5 by simp [skN,hc_0,hc_1,hc_2,hc_3,hc_4]]
  rfl
 ·refine Aw_st hE [0,3] [3,1000,1001,1002,1003,1004,1005,1006] fun K hK=>?_
  simp only [go_sem,seval]
  refine hK _ ?_;clear hK K
  refine Aw_st hE [3,5] [3,1000,1001,1002,1003,1004,1005,1006] fun K hK=>?_
  simp only [go_sem,seval]
  refine hK _ ?_;clear hK K
  refine Aw_sq fun B1 hB1 hR1 hX1=>?_
  refine Aw_bk fun B2 hN2 hE2 hR2 hX2=>?_
  refine Aw_unr 7 ?_
  refine Aw_rd fun B3_0 hN3_0 hR3_0 hX3_0=>?_
  refine Aw_sq fun B4_0 hB4_0 hR4_0 hX4_0=>?_
  have hr_0:=hlg g1 (by simp)
  refine Aw_sd hE [3,5,25] [3,1000,1001,1002,1003,1004,1005,1006] 6 (by kernel_rfl) fun K hK=>?_
  simp only [go_sem,seval,hr_0,hr,Bool.and_self,if_true]
  refine hK _ (Aw_cond rfl (fun hc_0=>?_) (fun hc_0=>?_))
  rotate_left
  ·simp only [decide_eq_false_iff_not] at hc_0
   refine Aw_exit (hX4_0 _ _ (hX3_0 _ _ (hE2 _ (hB1 _ ?_))))
   refine Aw_st hE [4] [3,1000,1001,1002,1003,1004,1005,1006] fun K hK=>?_
   simp only [go_sem,seval]
   refine hK _ ?_
   refine Aw.leE (Le_E (Le_ks [4] [1000,1001,1002,1003,1004,1005,1006])) ?_
   refine Aw_ret (hQ _ ?_)
   simp only [go_sem,seval]
   refine hpost [g1,g2,g3,g4,g5,g6] _ _ rfl rfl ?_
   rw [show skN f b [g1,g2,g3,g4,g5,g6]=0 by simp [skN,hc_0]]
   rfl
  simp only [decide_eq_true_eq] at hc_0
  refine Aw_skip (hB4_0 _ ?_)
  refine Aw_bk fun B5_0 hN5_0 hE5_0 hR5_0 hX5_0=>?_
  refine Aw_tx hE [3,5] [3,1000,1001,1002,1003,1004,1005,1006] fun K hK=>?_
  simp only [go_sem,seval]
  refine hK _ (hN5_0 _ (hN3_0 _ ?_))
  refine Aw_rd fun B3_1 hN3_1 hR3_1 hX3_1=>?_
  refine Aw_sq fun B4_1 hB4_1 hR4_1 hX4_1=>?_
  have hr_1:=hlg g2 (by simp)
  refine Aw_sd hE [3,5,25] [3,1000,1001,1002,1003,1004,1005,1006] 6 (by kernel_rfl) fun K hK=>?_
  simp only [go_sem,seval,hr_1,hr,Bool.and_self,if_true]
  refine hK _ (Aw_cond rfl (fun hc_1=>?_) (fun hc_1=>?_))
  rotate_left
  ·simp only [decide_eq_false_iff_not] at hc_1
   refine Aw_exit (hX4_1 _ _ (hX3_1 _ _ (hE2 _ (hB1 _ ?_))))
   refine Aw_st hE [4] [3,1000,1001,1002,1003,1004,1005,1006] fun K hK=>?_
   simp only [go_sem,seval]
   refine hK _ ?_
   refine Aw.leE (Le_E (Le_ks [4] [1000,1001,1002,1003,1004,1005,1006])) ?_
   refine Aw_ret (hQ _ ?_)
   simp only [go_sem,seval]
   refine hpost [g1,g2,g3,g4,g5,g6] _ _ rfl rfl ?_
   rw [show skN f b [g1,g2,g3,g4,g5,g6]=1 by simp [skN,hc_0,hc_1]]
   rfl
  simp only [decide_eq_true_eq] at hc_1
  refine Aw_skip (hB4_1 _ ?_)
  refine Aw_bk fun B5_1 hN5_1 hE5_1 hR5_1 hX5_1=>?_
  refine Aw_tx hE [3,5] [3,1000,1001,1002,1003,1004,1005,1006] fun K hK=>?_
  simp only [go_sem,seval]
  refine hK _ (hN5_1 _ (hN3_1 _ ?_))
  refine Aw_rd fun B3_2 hN3_2 hR3_2 hX3_2=>?_
  refine Aw_sq fun B4_2 hB4_2 hR4_2 hX4_2=>?_
  have hr_2:=hlg g3 (by simp)
  refine Aw_sd hE [3,5,25] [3,1000,1001,1002,1003,1004,1005,1006] 6 (by kernel_rfl) fun K hK=>?_
  simp only [go_sem,seval,hr_2,hr,Bool.and_self,if_true]
  refine hK _ (Aw_cond rfl (fun hc_2=>?_) (fun hc_2=>?_))
  rotate_left
  ·simp only [decide_eq_false_iff_not] at hc_2
   refine Aw_exit (hX4_2 _ _ (hX3_2 _ _ (hE2 _ (hB1 _ ?_))))
   refine Aw_st hE [4] [3,1000,1001,1002,1003,1004,1005,1006] fun K hK=>?_
   simp only [go_sem,seval]
   refine hK _ ?_
   refine Aw.leE (Le_E (Le_ks [4] [1000,1001,1002,1003,1004,1005,1006])) ?_
   refine Aw_ret (hQ _ ?_)
   simp only [go_sem,seval]
   refine hpost [g1,g2,g3,g4,g5,g6] _ _ rfl rfl ?_
   rw [show skN f b [g1,g2,g3,g4,g5,g6]=2 by simp [skN,hc_0,hc_1,hc_2]]
   rfl
  simp only [decide_eq_true_eq] at hc_2
  refine Aw_skip (hB4_2 _ ?_)
  refine Aw_bk fun B5_2 hN5_2 hE5_2 hR5_2 hX5_2=>?_
  refine Aw_tx hE [3,5] [3,1000,1001,1002,1003,1004,1005,1006] fun K hK=>?_
  simp only [go_sem,seval]
  refine hK _ (hN5_2 _ (hN3_2 _ ?_))
  refine Aw_rd fun B3_3 hN3_3 hR3_3 hX3_3=>?_
  refine Aw_sq fun B4_3 hB4_3 hR4_3 hX4_3=>?_
  have hr_3:=hlg g4 (by simp)
  refine Aw_sd hE [3,5,25] [3,1000,1001,1002,1003,1004,1005,1006] 6 (by kernel_rfl) fun K hK=>?_
  simp only [go_sem,seval,hr_3,hr,Bool.and_self,if_true]
  refine hK _ (Aw_cond rfl (fun hc_3=>?_) (fun hc_3=>?_))
  rotate_left
  ·simp only [decide_eq_false_iff_not] at hc_3
   refine Aw_exit (hX4_3 _ _ (hX3_3 _ _ (hE2 _ (hB1 _ ?_))))
   refine Aw_st hE [4] [3,1000,1001,1002,1003,1004,1005,1006] fun K hK=>?_
   simp only [go_sem,seval]
   refine hK _ ?_
   refine Aw.leE (Le_E (Le_ks [4] [1000,1001,1002,1003,1004,1005,1006])) ?_
   refine Aw_ret (hQ _ ?_)
   simp only [go_sem,seval]
   refine hpost [g1,g2,g3,g4,g5,g6] _ _ rfl rfl ?_
   rw [show skN f b [g1,g2,g3,g4,g5,g6]=3 by simp [skN,hc_0,hc_1,hc_2,hc_3]]
   rfl
  simp only [decide_eq_true_eq] at hc_3
  refine Aw_skip (hB4_3 _ ?_)
  refine Aw_bk fun B5_3 hN5_3 hE5_3 hR5_3 hX5_3=>?_
  refine Aw_tx hE [3,5] [3,1000,1001,1002,1003,1004,1005,1006] fun K hK=>?_
  simp only [go_sem,seval]
  refine hK _ (hN5_3 _ (hN3_3 _ ?_))
  refine Aw_rd fun B3_4 hN3_4 hR3_4 hX3_4=>?_
  refine Aw_sq fun B4_4 hB4_4 hR4_4 hX4_4=>?_
  have hr_4:=hlg g5 (by simp)
  refine Aw_sd hE [3,5,25] [3,1000,1001,1002,1003,1004,1005,1006] 6 (by kernel_rfl) fun K hK=>?_
  simp only [go_sem,seval,hr_4,hr,Bool.and_self,if_true]
  refine hK _ (Aw_cond rfl (fun hc_4=>?_) (fun hc_4=>?_))
  rotate_left
  ·simp only [decide_eq_false_iff_not] at hc_4
   refine Aw_exit (hX4_4 _ _ (hX3_4 _ _ (hE2 _ (hB1 _ ?_))))
   refine Aw_st hE [4] [3,1000,1001,1002,1003,1004,1005,1006] fun K hK=>?_
   simp only [go_sem,seval]
   refine hK _ ?_
   refine Aw.leE (Le_E (Le_ks [4] [1000,1001,1002,1003,1004,1005,1006])) ?_
   refine Aw_ret (hQ _ ?_)
   simp only [go_sem,seval]
   refine hpost [g1,g2,g3,g4,g5,g6] _ _ rfl rfl ?_
   rw [show skN f b [g1,g2,g3,g4,g5,g6]=4 by simp [skN,hc_0,hc_1,hc_2,hc_3,hc_4]]
   rfl
  simp only [decide_eq_true_eq] at hc_4
  refine Aw_skip (hB4_4 _ ?_)
  refine Aw_bk fun B5_4 hN5_4 hE5_4 hR5_4 hX5_4=>?_
  refine Aw_tx hE [3,5] [3,1000,1001,1002,1003,1004,1005,1006] fun K hK=>?_
  simp only [go_sem,seval]
  refine hK _ (hN5_4 _ (hN3_4 _ ?_))
  refine Aw_rd fun B3_5 hN3_5 hR3_5 hX3_5=>?_
  refine Aw_sq fun B4_5 hB4_5 hR4_5 hX4_5=>?_
  have hr_5:=hlg g6 (by simp)
  refine Aw_sd hE [3,5,25] [3,1000,1001,1002,1003,1004,1005,1006] 6 (by kernel_rfl) fun K hK=>?_
  simp only [go_sem,seval,hr_5,hr,Bool.and_self,if_true]
  refine hK _ (Aw_cond rfl (fun hc_5=>?_) (fun hc_5=>?_))
  rotate_left
  ·simp only [decide_eq_false_iff_not] at hc_5
   refine Aw_exit (hX4_5 _ _ (hX3_5 _ _ (hE2 _ (hB1 _ ?_))))
   refine Aw_st hE [4] [3,1000,1001,1002,1003,1004,1005,1006] fun K hK=>?_
   simp only [go_sem,seval]
   refine hK _ ?_
   refine Aw.leE (Le_E (Le_ks [4] [1000,1001,1002,1003,1004,1005,1006])) ?_
   refine Aw_ret (hQ _ ?_)
   simp only [go_sem,seval]
   refine hpost [g1,g2,g3,g4,g5,g6] _ _ rfl rfl ?_
   rw [show skN f b [g1,g2,g3,g4,g5,g6]=5 by simp [skN,hc_0,hc_1,hc_2,hc_3,hc_4,hc_5]]
   rfl
  simp only [decide_eq_true_eq] at hc_5
  refine Aw_skip (hB4_5 _ ?_)
  refine Aw_bk fun B5_5 hN5_5 hE5_5 hR5_5 hX5_5=>?_
  refine Aw_tx hE [3,5] [3,1000,1001,1002,1003,1004,1005,1006] fun K hK=>?_
  simp only [go_sem,seval]
  refine hK _ (hN5_5 _ (hN3_5 _ ?_))
  refine Aw_rd fun B3_6 hN3_6 hR3_6 hX3_6=>?_
  refine Aw_sq fun B4_6 hB4_6 hR4_6 hX4_6=>?_
  refine Aw_sd hE [3,5,25] [3,1000,1001,1002,1003,1004,1005,1006] 6 (by kernel_rfl) fun K hK=>?_
  simp only [go_sem,seval]
  refine hK _ (Aw_no rfl (Aw_exit (hX4_6 _ _ (hX3_6 _ _ (hE2 _ (hB1 _ ?_))))))
  refine Aw_st hE [4] [3,1000,1001,1002,1003,1004,1005,1006] fun K hK=>?_
  simp only [go_sem,seval]
  refine hK _ ?_
  refine Aw.leE (Le_E (Le_ks [4] [1000,1001,1002,1003,1004,1005,1006])) ?_
  refine Aw_ret (hQ _ ?_)
  simp only [go_sem,seval]
  refine hpost [g1,g2,g3,g4,g5,g6] _ _ rfl rfl ?_
  rw [show skN f b [g1,g2,g3,g4,g5,g6]=6 by simp [skN,hc_0,hc_1,hc_2,hc_3,hc_4,hc_5]]
  rfl
end Go.Proofs.W
end
section
namespace Go.Proofs.W
open Go Go.Eng Go.RowKit
set_option linter.unusedSimpArgs false
set_option maxRecDepth 100000
/-! what is old goes from a list -/
def hdR:List Gt→AV
 | []=>.v (.pointer none)
 | _::r=>.loc (570 + r.length) 0
def rsN:List Gt→List (Nat × List AV)
 | []=>[]
 | g::r=>(570 + r.length,gcs g++[hdR r])::rsN r
def nxK (x:AV):List Gt→Nat→AV
 | [],_=>x
 | _::_,k=>.loc k 0
def kpN (x:AV):List Gt→Nat→List (Nat × List AV)
 | [],_=>[]
 | g::o,k=>(k,gcs g++[nxK x o (k + 1)])::kpN x o (k + 1)
def lnk:List Gt→AV
 | []=>.loc 410 2
 | _::o=>.loc (550 + o.length) 6
def endF (h0:Int) (up:Bool) (n:Int) (k:Nat) (o r:List Gt):St:=⟨40,[(2,.loc 2 0),(3,.loc 410 0),(4,lnk o)],(2,[iv 0,bv false,.nl])::(410,[iv h0,bv up,nxK (hdR r) o 550,iv n])::(kpN (hdR r) o 550++rsN r),k⟩
def endX (h0:Int) (up:Bool) (n:Int) (k:Nat) (o:List Gt):St:=⟨40,[(2,.loc 2 0),(3,.loc 410 0)],(2,[iv 0,bv false,.nl])::(410,[iv h0,bv up,nxK (.v (.pointer none)) o 550,iv n])::kpN (.v (.pointer none)) o 550,k⟩
attribute [go_sem] hdR rsN nxK kpN lnk
def sndC:Code→Code
 | .seq _ y=>y
 | c=>c
def fstC:Code→Code
 | .seq x _=>x
 | c=>c
theorem endL_keep {g:Gt} {r:List Gt} (h:g.old=false):endL (g::r)=g::endL r:=by
 obtain ⟨x,o⟩:=g
 simp only at h
 subst h
 rfl
theorem endL_drop {g:Gt} {r:List Gt} (h:g.old=true):endL (g::r)=endL r:=by
 rw [endL,h];rfl
def tbEnd (pb:Addr):Tb:={ T:=TT,G:=[(44,cRibL)],D:=[(18,dRibOkI pb)],draws:=false,gl:=[],M:=[],MM:=[(42,(cOpen,[],[(600,400),(601,401),(602,402),(603,403),(604,404),(605,405),(606,406)]))],X:=[],EX:=[] }
attribute [go_sem] tbEnd
theorem six2 {o r:List Gt} (h:o.length + r.length≤6):o.length≤6∧r.length≤6:=by omega
set_option maxHeartbeats 40000000 in
theorem ribEnd_loop (pb:Addr) {E:En} (hE:TbOk E (tbEnd pb)) {h0:Int} {up:Bool} {n:Int} {k:Nat} {l:List Gt} (hl6:l.length≤6) {B:Exit→St→Prop} (hB:∀ st',LeE E st' (endX h0 up n k (endL l))→B .normal st'):Aw E (sndC (fstC (sndC (sndC (sndC (Tryz.f31.body.getD .skip)))))) (endF h0 up n k [] l) B:=by
 refine Aw_bk fun B4 hN4 hE4 hR4 hX4=>?_
 refine Aw_lp (fun i:List Gt × List Gt=>endF h0 up n k i.1 i.2) (fun i=>i.1++endL i.2=endL l∧i.1.length + i.2.length≤6) (fun i=>i.2.length) ([],l) (Le.refl _) ⟨rfl,by simpa using hl6⟩ fun i hi B5 hN5 hR5 hX5=>?_
 obtain ⟨o,r⟩:=i
 obtain ⟨hi1,hi2⟩:=hi
 simp only at hi1 hi2
 simp only [endF]
 refine Aw_sq fun B6 hB6 hR6 hX6=>?_
 rcases six (six2 hi2).2 with rfl | ⟨r1,rfl⟩ | ⟨r1,r2,rfl⟩ | ⟨r1,r2,r3,rfl⟩ | ⟨r1,r2,r3,r4,rfl⟩ | ⟨r1,r2,r3,r4,r5,rfl⟩ | ⟨r1,r2,r3,r4,r5,r6,rfl⟩
 ·have ho:o.length≤6:=by simp only [List.length_cons,List.length_nil] at hi2;omega
  rcases six (Nat.le_trans ho (by decide)) with rfl | ⟨g1,rfl⟩ | ⟨g1,g2,rfl⟩ | ⟨g1,g2,g3,rfl⟩ | ⟨g1,g2,g3,g4,rfl⟩ | ⟨g1,g2,g3,g4,g5,rfl⟩ | ⟨g1,g2,g3,g4,g5,g6,rfl⟩
  ·refine Aw_stP hE [2,3,4,17] [2,410,550,551,552,553,554,555,556,570,571,572,573,574,575,576] fun K hK=>?_
   simp only [go_sem,seval]
   refine hK _ (Aw_no rfl (Aw_exit (hX6 _ _ (hX5 _ _ (hE4 _ (hB _ ?_))))))
   rw [← hi1]
   exact Le_E (Le_ks [2,3] [2,410])
  ·refine Aw_stP hE [2,3,4,17] [2,410,550,551,552,553,554,555,556,570,571,572,573,574,575,576] fun K hK=>?_
   simp only [go_sem,seval]
   refine hK _ (Aw_no rfl (Aw_exit (hX6 _ _ (hX5 _ _ (hE4 _ (hB _ ?_))))))
   rw [← hi1]
   exact Le_E (Le_ks [2,3] [2,410,550])
  ·refine Aw_stP hE [2,3,4,17] [2,410,550,551,552,553,554,555,556,570,571,572,573,574,575,576] fun K hK=>?_
   simp only [go_sem,seval]
   refine hK _ (Aw_no rfl (Aw_exit (hX6 _ _ (hX5 _ _ (hE4 _ (hB _ ?_))))))
   rw [← hi1]
   exact Le_E (Le_ks [2,3] [2,410,550,551])
  ·refine Aw_stP hE [2,3,4,17] [2,410,550,551,552,553,554,555,556,570,571,572,573,574,575,576] fun K hK=>?_
   simp only [go_sem,seval]
   refine hK _ (Aw_no rfl (Aw_exit (hX6 _ _ (hX5 _ _ (hE4 _ (hB _ ?_))))))
   rw [← hi1]
   exact Le_E (Le_ks [2,3] [2,410,550,551,552])
  ·refine Aw_stP hE [2,3,4,17] [2,410,550,551,552,553,554,555,556,570,571,572,573,574,575,576] fun K hK=>?_
   simp only [go_sem,seval]
   refine hK _ (Aw_no rfl (Aw_exit (hX6 _ _ (hX5 _ _ (hE4 _ (hB _ ?_))))))
   rw [← hi1]
   exact Le_E (Le_ks [2,3] [2,410,550,551,552,553])
  ·refine Aw_stP hE [2,3,4,17] [2,410,550,551,552,553,554,555,556,570,571,572,573,574,575,576] fun K hK=>?_
   simp only [go_sem,seval]
   refine hK _ (Aw_no rfl (Aw_exit (hX6 _ _ (hX5 _ _ (hE4 _ (hB _ ?_))))))
   rw [← hi1]
   exact Le_E (Le_ks [2,3] [2,410,550,551,552,553,554])
  ·refine Aw_stP hE [2,3,4,17] [2,410,550,551,552,553,554,555,556,570,571,572,573,574,575,576] fun K hK=>?_
   simp only [go_sem,seval]
   refine hK _ (Aw_no rfl (Aw_exit (hX6 _ _ (hX5 _ _ (hE4 _ (hB _ ?_))))))
   rw [← hi1]
   exact Le_E (Le_ks [2,3] [2,410,550,551,552,553,554,555])
 ·have ho:o.length≤5:=by simp only [List.length_cons,List.length_nil] at hi2;omega
  rcases six (Nat.le_trans ho (by decide)) with rfl | ⟨g1,rfl⟩ | ⟨g1,g2,rfl⟩ | ⟨g1,g2,g3,rfl⟩ | ⟨g1,g2,g3,g4,rfl⟩ | ⟨g1,g2,g3,g4,g5,rfl⟩ | ⟨g1,g2,g3,g4,g5,g6,rfl⟩
  ·refine Aw_stP hE [2,3,4,17] [2,410,550,551,552,553,554,555,556,570,571,572,573,574,575,576] fun K hK=>?_
   simp only [go_sem,seval]
   refine hK _ (Aw_yes rfl (Aw_skip (hB6 _ ?_)))
   refine Aw_bk fun B8 hN8 hE8 hR8 hX8=>?_
   refine Aw_sq fun B9 hB9 hR9 hX9=>?_
   refine Aw_st hE [2,3,4,24] [2,410,550,551,552,553,554,555,556,570,571,572,573,574,575,576] fun K hK=>?_
   simp only [go_sem,seval]
   refine hK _ (Aw_cond rfl (fun hold=>?_) (fun hold=>?_))
   ·skip
    refine Aw_st hE [2,3,4] [2,410,550,551,552,553,554,555,556,570,571,572,573,574,575,576] fun K hK=>?_
    simp only [go_sem,seval]
    refine hK _ (Aw_exit (hX9 _ _ (hE8 _ (hN5 ([],[]) _ ⟨?_,?_⟩ ?_ ?_))))
    ·rw [← hi1,endL_drop hold]
    ·simp
    ·simp
    ·exact Le_ks [2,3,4] [2,410]
   ·refine Aw_skip (hB9 _ ?_)
    refine Aw_tx hE [2,3,4] [2,410,550,551,552,553,554,555,556,570,571,572,573,574,575,576] fun K hK=>?_
    simp only [go_sem,seval]
    refine hK _ (hN8 _ (hN5 ([r1],[]) _ ⟨?_,?_⟩ ?_ ?_))
    ·rw [← hi1,endL_keep hold];rfl
    ·simp
    ·simp
    ·refine (Le_swb _ 570 550 (by decide) (by decide)).trans ?_
     simp only [St.swb,swbσ,swbm,AV.swb,AV.swbAll,swp,Nat.reduceEqDiff,if_true,if_false,reduceIte,gcs,List.cons_append,List.nil_append]
     exact Le_ks [2,3,4] [2,410,550]
  ·refine Aw_stP hE [2,3,4,17] [2,410,550,551,552,553,554,555,556,570,571,572,573,574,575,576] fun K hK=>?_
   simp only [go_sem,seval]
   refine hK _ (Aw_yes rfl (Aw_skip (hB6 _ ?_)))
   refine Aw_bk fun B8 hN8 hE8 hR8 hX8=>?_
   refine Aw_sq fun B9 hB9 hR9 hX9=>?_
   refine Aw_st hE [2,3,4,24] [2,410,550,551,552,553,554,555,556,570,571,572,573,574,575,576] fun K hK=>?_
   simp only [go_sem,seval]
   refine hK _ (Aw_cond rfl (fun hold=>?_) (fun hold=>?_))
   ·skip
    refine Aw_st hE [2,3,4] [2,410,550,551,552,553,554,555,556,570,571,572,573,574,575,576] fun K hK=>?_
    simp only [go_sem,seval]
    refine hK _ (Aw_exit (hX9 _ _ (hE8 _ (hN5 ([g1],[]) _ ⟨?_,?_⟩ ?_ ?_))))
    ·rw [← hi1,endL_drop hold]
    ·simp
    ·simp
    ·exact Le_ks [2,3,4] [2,410,550]
   ·refine Aw_skip (hB9 _ ?_)
    refine Aw_tx hE [2,3,4] [2,410,550,551,552,553,554,555,556,570,571,572,573,574,575,576] fun K hK=>?_
    simp only [go_sem,seval]
    refine hK _ (hN8 _ (hN5 ([g1,r1],[]) _ ⟨?_,?_⟩ ?_ ?_))
    ·rw [← hi1,endL_keep hold];rfl
    ·simp
    ·simp
    ·refine (Le_swb _ 570 551 (by decide) (by decide)).trans ?_
     simp only [St.swb,swbσ,swbm,AV.swb,AV.swbAll,swp,Nat.reduceEqDiff,if_true,if_false,reduceIte,gcs,List.cons_append,List.nil_append]
     exact Le_ks [2,3,4] [2,410,550,551]
  ·refine Aw_stP hE [2,3,4,17] [2,410,550,551,552,553,554,555,556,570,571,572,573,574,575,576] fun K hK=>?_
   simp only [go_sem,seval]
   refine hK _ (Aw_yes rfl (Aw_skip (hB6 _ ?_)))
   refine Aw_bk fun B8 hN8 hE8 hR8 hX8=>?_
   refine Aw_sq fun B9 hB9 hR9 hX9=>?_
   refine Aw_st hE [2,3,4,24] [2,410,550,551,552,553,554,555,556,570,571,572,573,574,575,576] fun K hK=>?_
   simp only [go_sem,seval]
   refine hK _ (Aw_cond rfl (fun hold=>?_) (fun hold=>?_))
   ·skip
    refine Aw_st hE [2,3,4] [2,410,550,551,552,553,554,555,556,570,571,572,573,574,575,576] fun K hK=>?_
    simp only [go_sem,seval]
    refine hK _ (Aw_exit (hX9 _ _ (hE8 _ (hN5 ([g1,g2],[]) _ ⟨?_,?_⟩ ?_ ?_))))
    ·rw [← hi1,endL_drop hold]
    ·simp
    ·simp
    ·exact Le_ks [2,3,4] [2,410,550,551]
   ·refine Aw_skip (hB9 _ ?_)
    refine Aw_tx hE [2,3,4] [2,410,550,551,552,553,554,555,556,570,571,572,573,574,575,576] fun K hK=>?_
    simp only [go_sem,seval]
    refine hK _ (hN8 _ (hN5 ([g1,g2,r1],[]) _ ⟨?_,?_⟩ ?_ ?_))
    ·rw [← hi1,endL_keep hold];rfl
    ·simp
    ·simp
    ·refine (Le_swb _ 570 552 (by decide) (by decide)).trans ?_
     simp only [St.swb,swbσ,swbm,AV.swb,AV.swbAll,swp,Nat.reduceEqDiff,if_true,if_false,reduceIte,gcs,List.cons_append,List.nil_append]
     exact Le_ks [2,3,4] [2,410,550,551,552]
  ·refine Aw_stP hE [2,3,4,17] [2,410,550,551,552,553,554,555,556,570,571,572,573,574,575,576] fun K hK=>?_
   simp only [go_sem,seval]
   refine hK _ (Aw_yes rfl (Aw_skip (hB6 _ ?_)))
   refine Aw_bk fun B8 hN8 hE8 hR8 hX8=>?_
   refine Aw_sq fun B9 hB9 hR9 hX9=>?_
   refine Aw_st hE [2,3,4,24] [2,410,550,551,552,553,554,555,556,570,571,572,573,574,575,576] fun K hK=>?_
   simp only [go_sem,seval]
   refine hK _ (Aw_cond rfl (fun hold=>?_) (fun hold=>?_))
   ·skip
    refine Aw_st hE [2,3,4] [2,410,550,551,552,553,554,555,556,570,571,572,573,574,575,576] fun K hK=>?_
    simp only [go_sem,seval]
    refine hK _ (Aw_exit (hX9 _ _ (hE8 _ (hN5 ([g1,g2,g3],[]) _ ⟨?_,?_⟩ ?_ ?_))))
    ·rw [← hi1,endL_drop hold]
    ·simp
    ·simp
    ·exact Le_ks [2,3,4] [2,410,550,551,552]
   ·refine Aw_skip (hB9 _ ?_)
    refine Aw_tx hE [2,3,4] [2,410,550,551,552,553,554,555,556,570,571,572,573,574,575,576] fun K hK=>?_
    simp only [go_sem,seval]
    refine hK _ (hN8 _ (hN5 ([g1,g2,g3,r1],[]) _ ⟨?_,?_⟩ ?_ ?_))
    ·rw [← hi1,endL_keep hold];rfl
    ·simp
    ·simp
    ·refine (Le_swb _ 570 553 (by decide) (by decide)).trans ?_
     simp only [St.swb,swbσ,swbm,AV.swb,AV.swbAll,swp,Nat.reduceEqDiff,if_true,if_false,reduceIte,gcs,List.cons_append,List.nil_append]
     exact Le_ks [2,3,4] [2,410,550,551,552,553]
  ·refine Aw_stP hE [2,3,4,17] [2,410,550,551,552,553,554,555,556,570,571,572,573,574,575,576] fun K hK=>?_
   simp only [go_sem,seval]
   refine hK _ (Aw_yes rfl (Aw_skip (hB6 _ ?_)))
   refine Aw_bk fun B8 hN8 hE8 hR8 hX8=>?_
   refine Aw_sq fun B9 hB9 hR9 hX9=>?_
   refine Aw_st hE [2,3,4,24] [2,410,550,551,552,553,554,555,556,570,571,572,573,574,575,576] fun K hK=>?_
   simp only [go_sem,seval]
   refine hK _ (Aw_cond rfl (fun hold=>?_) (fun hold=>?_))
   ·skip
    refine Aw_st hE [2,3,4] [2,410,550,551,552,553,554,555,556,570,571,572,573,574,575,576] fun K hK=>?_
    simp only [go_sem,seval]
    refine hK _ (Aw_exit (hX9 _ _ (hE8 _ (hN5 ([g1,g2,g3,g4],[]) _ ⟨?_,?_⟩ ?_ ?_))))
    ·rw [← hi1,endL_drop hold]
    ·simp
    ·simp
    ·exact Le_ks [2,3,4] [2,410,550,551,552,553]
   ·refine Aw_skip (hB9 _ ?_)
    refine Aw_tx hE [2,3,4] [2,410,550,551,552,553,554,555,556,570,571,572,573,574,575,576] fun K hK=>?_
    simp only [go_sem,seval]
    refine hK _ (hN8 _ (hN5 ([g1,g2,g3,g4,r1],[]) _ ⟨?_,?_⟩ ?_ ?_))
    ·rw [← hi1,endL_keep hold];rfl
    ·simp
    ·simp
    ·refine (Le_swb _ 570 554 (by decide) (by decide)).trans ?_
     simp only [St.swb,swbσ,swbm,AV.swb,AV.swbAll,swp,Nat.reduceEqDiff,if_true,if_false,reduceIte,gcs,List.cons_append,List.nil_append]
     exact Le_ks [2,3,4] [2,410,550,551,552,553,554]
  ·refine Aw_stP hE [2,3,4,17] [2,410,550,551,552,553,554,555,556,570,571,572,573,574,575,576] fun K hK=>?_
   simp only [go_sem,seval]
   refine hK _ (Aw_yes rfl (Aw_skip (hB6 _ ?_)))
   refine Aw_bk fun B8 hN8 hE8 hR8 hX8=>?_
   refine Aw_sq fun B9 hB9 hR9 hX9=>?_
   refine Aw_st hE [2,3,4,24] [2,410,550,551,552,553,554,555,556,570,571,572,573,574,575,576] fun K hK=>?_
   simp only [go_sem,seval]
   refine hK _ (Aw_cond rfl (fun hold=>?_) (fun hold=>?_))
   ·skip
    refine Aw_st hE [2,3,4] [2,410,550,551,552,553,554,555,556,570,571,572,573,574,575,576] fun K hK=>?_
    simp only [go_sem,seval]
    refine hK _ (Aw_exit (hX9 _ _ (hE8 _ (hN5 ([g1,g2,g3,g4,g5],[]) _ ⟨?_,?_⟩ ?_ ?_))))
    ·rw [← hi1,endL_drop hold]
    ·simp
    ·simp
    ·exact Le_ks [2,3,4] [2,410,550,551,552,553,554]
   ·refine Aw_skip (hB9 _ ?_)
    refine Aw_tx hE [2,3,4] [2,410,550,551,552,553,554,555,556,570,571,572,573,574,575,576] fun K hK=>?_
    simp only [go_sem,seval]
    refine hK _ (hN8 _ (hN5 ([g1,g2,g3,g4,g5,r1],[]) _ ⟨?_,?_⟩ ?_ ?_))
    ·rw [← hi1,endL_keep hold];rfl
    ·simp
    ·simp
    ·refine (Le_swb _ 570 555 (by decide) (by decide)).trans ?_
     simp only [St.swb,swbσ,swbm,AV.swb,AV.swbAll,swp,Nat.reduceEqDiff,if_true,if_false,reduceIte,gcs,List.cons_append,List.nil_append]
     exact Le_ks [2,3,4] [2,410,550,551,552,553,554,555]
  ·simp at ho
 ·have ho:o.length≤4:=by simp only [List.length_cons,List.length_nil] at hi2;omega
  rcases six (Nat.le_trans ho (by decide)) with rfl | ⟨g1,rfl⟩ | ⟨g1,g2,rfl⟩ | ⟨g1,g2,g3,rfl⟩ | ⟨g1,g2,g3,g4,rfl⟩ | ⟨g1,g2,g3,g4,g5,rfl⟩ | ⟨g1,g2,g3,g4,g5,g6,rfl⟩
  ·refine Aw_stP hE [2,3,4,17] [2,410,550,551,552,553,554,555,556,570,571,572,573,574,575,576] fun K hK=>?_
   simp only [go_sem,seval]
   refine hK _ (Aw_yes rfl (Aw_skip (hB6 _ ?_)))
   refine Aw_bk fun B8 hN8 hE8 hR8 hX8=>?_
   refine Aw_sq fun B9 hB9 hR9 hX9=>?_
   refine Aw_st hE [2,3,4,24] [2,410,550,551,552,553,554,555,556,570,571,572,573,574,575,576] fun K hK=>?_
   simp only [go_sem,seval]
   refine hK _ (Aw_cond rfl (fun hold=>?_) (fun hold=>?_))
   ·skip
    refine Aw_st hE [2,3,4] [2,410,550,551,552,553,554,555,556,570,571,572,573,574,575,576] fun K hK=>?_
    simp only [go_sem,seval]
    refine hK _ (Aw_exit (hX9 _ _ (hE8 _ (hN5 ([],[r2]) _ ⟨?_,?_⟩ ?_ ?_))))
    ·rw [← hi1,endL_drop hold]
    ·simp
    ·simp
    ·exact Le_ks [2,3,4] [2,410,570]
   ·refine Aw_skip (hB9 _ ?_)
    refine Aw_tx hE [2,3,4] [2,410,550,551,552,553,554,555,556,570,571,572,573,574,575,576] fun K hK=>?_
    simp only [go_sem,seval]
    refine hK _ (hN8 _ (hN5 ([r1],[r2]) _ ⟨?_,?_⟩ ?_ ?_))
    ·rw [← hi1,endL_keep hold];rfl
    ·simp
    ·simp
    ·refine (Le_swb _ 571 550 (by decide) (by decide)).trans ?_
     simp only [St.swb,swbσ,swbm,AV.swb,AV.swbAll,swp,Nat.reduceEqDiff,if_true,if_false,reduceIte,gcs,List.cons_append,List.nil_append]
     exact Le_ks [2,3,4] [2,410,550,570]
  ·refine Aw_stP hE [2,3,4,17] [2,410,550,551,552,553,554,555,556,570,571,572,573,574,575,576] fun K hK=>?_
   simp only [go_sem,seval]
   refine hK _ (Aw_yes rfl (Aw_skip (hB6 _ ?_)))
   refine Aw_bk fun B8 hN8 hE8 hR8 hX8=>?_
   refine Aw_sq fun B9 hB9 hR9 hX9=>?_
   refine Aw_st hE [2,3,4,24] [2,410,550,551,552,553,554,555,556,570,571,572,573,574,575,576] fun K hK=>?_
   simp only [go_sem,seval]
   refine hK _ (Aw_cond rfl (fun hold=>?_) (fun hold=>?_))
   ·skip
    refine Aw_st hE [2,3,4] [2,410,550,551,552,553,554,555,556,570,571,572,573,574,575,576] fun K hK=>?_
    simp only [go_sem,seval]
    refine hK _ (Aw_exit (hX9 _ _ (hE8 _ (hN5 ([g1],[r2]) _ ⟨?_,?_⟩ ?_ ?_))))
    ·rw [← hi1,endL_drop hold]
    ·simp
    ·simp
    ·exact Le_ks [2,3,4] [2,410,550,570]
   ·refine Aw_skip (hB9 _ ?_)
    refine Aw_tx hE [2,3,4] [2,410,550,551,552,553,554,555,556,570,571,572,573,574,575,576] fun K hK=>?_
    simp only [go_sem,seval]
    refine hK _ (hN8 _ (hN5 ([g1,r1],[r2]) _ ⟨?_,?_⟩ ?_ ?_))
    ·rw [← hi1,endL_keep hold];rfl
    ·simp
    ·simp
    ·refine (Le_swb _ 571 551 (by decide) (by decide)).trans ?_
     simp only [St.swb,swbσ,swbm,AV.swb,AV.swbAll,swp,Nat.reduceEqDiff,if_true,if_false,reduceIte,gcs,List.cons_append,List.nil_append]
     exact Le_ks [2,3,4] [2,410,550,551,570]
  ·refine Aw_stP hE [2,3,4,17] [2,410,550,551,552,553,554,555,556,570,571,572,573,574,575,576] fun K hK=>?_
   simp only [go_sem,seval]
   refine hK _ (Aw_yes rfl (Aw_skip (hB6 _ ?_)))
   refine Aw_bk fun B8 hN8 hE8 hR8 hX8=>?_
   refine Aw_sq fun B9 hB9 hR9 hX9=>?_
   refine Aw_st hE [2,3,4,24] [2,410,550,551,552,553,554,555,556,570,571,572,573,574,575,576] fun K hK=>?_
   simp only [go_sem,seval]
   refine hK _ (Aw_cond rfl (fun hold=>?_) (fun hold=>?_))
   ·skip
    refine Aw_st hE [2,3,4] [2,410,550,551,552,553,554,555,556,570,571,572,573,574,575,576] fun K hK=>?_
    simp only [go_sem,seval]
    refine hK _ (Aw_exit (hX9 _ _ (hE8 _ (hN5 ([g1,g2],[r2]) _ ⟨?_,?_⟩ ?_ ?_))))
    ·rw [← hi1,endL_drop hold]
    ·simp
    ·simp
    ·exact Le_ks [2,3,4] [2,410,550,551,570]
   ·refine Aw_skip (hB9 _ ?_)
    refine Aw_tx hE [2,3,4] [2,410,550,551,552,553,554,555,556,570,571,572,573,574,575,576] fun K hK=>?_
    simp only [go_sem,seval]
    refine hK _ (hN8 _ (hN5 ([g1,g2,r1],[r2]) _ ⟨?_,?_⟩ ?_ ?_))
    ·rw [← hi1,endL_keep hold];rfl
    ·simp
    ·simp
    ·refine (Le_swb _ 571 552 (by decide) (by decide)).trans ?_
     simp only [St.swb,swbσ,swbm,AV.swb,AV.swbAll,swp,Nat.reduceEqDiff,if_true,if_false,reduceIte,gcs,List.cons_append,List.nil_append]
     exact Le_ks [2,3,4] [2,410,550,551,552,570]
  ·refine Aw_stP hE [2,3,4,17] [2,410,550,551,552,553,554,555,556,570,571,572,573,574,575,576] fun K hK=>?_
   simp only [go_sem,seval]
   refine hK _ (Aw_yes rfl (Aw_skip (hB6 _ ?_)))
   refine Aw_bk fun B8 hN8 hE8 hR8 hX8=>?_
   refine Aw_sq fun B9 hB9 hR9 hX9=>?_
   refine Aw_st hE [2,3,4,24] [2,410,550,551,552,553,554,555,556,570,571,572,573,574,575,576] fun K hK=>?_
   simp only [go_sem,seval]
   refine hK _ (Aw_cond rfl (fun hold=>?_) (fun hold=>?_))
   ·skip
    refine Aw_st hE [2,3,4] [2,410,550,551,552,553,554,555,556,570,571,572,573,574,575,576] fun K hK=>?_
    simp only [go_sem,seval]
    refine hK _ (Aw_exit (hX9 _ _ (hE8 _ (hN5 ([g1,g2,g3],[r2]) _ ⟨?_,?_⟩ ?_ ?_))))
    ·rw [← hi1,endL_drop hold]
    ·simp
    ·simp
    ·exact Le_ks [2,3,4] [2,410,550,551,552,570]
   ·refine Aw_skip (hB9 _ ?_)
    refine Aw_tx hE [2,3,4] [2,410,550,551,552,553,554,555,556,570,571,572,573,574,575,576] fun K hK=>?_
    simp only [go_sem,seval]
    refine hK _ (hN8 _ (hN5 ([g1,g2,g3,r1],[r2]) _ ⟨?_,?_⟩ ?_ ?_))
    ·rw [← hi1,endL_keep hold];rfl
    ·simp
    ·simp
    ·refine (Le_swb _ 571 553 (by decide) (by decide)).trans ?_
     simp only [St.swb,swbσ,swbm,AV.swb,AV.swbAll,swp,Nat.reduceEqDiff,if_true,if_false,reduceIte,gcs,List.cons_append,List.nil_append]
     exact Le_ks [2,3,4] [2,410,550,551,552,553,570]
  ·refine Aw_stP hE [2,3,4,17] [2,410,550,551,552,553,554,555,556,570,571,572,573,574,575,576] fun K hK=>?_
   simp only [go_sem,seval]
   refine hK _ (Aw_yes rfl (Aw_skip (hB6 _ ?_)))
   refine Aw_bk fun B8 hN8 hE8 hR8 hX8=>?_
   refine Aw_sq fun B9 hB9 hR9 hX9=>?_
   refine Aw_st hE [2,3,4,24] [2,410,550,551,552,553,554,555,556,570,571,572,573,574,575,576] fun K hK=>?_
   simp only [go_sem,seval]
   refine hK _ (Aw_cond rfl (fun hold=>?_) (fun hold=>?_))
   ·skip
    refine Aw_st hE [2,3,4] [2,410,550,551,552,553,554,555,556,570,571,572,573,574,575,576] fun K hK=>?_
    simp only [go_sem,seval]
    refine hK _ (Aw_exit (hX9 _ _ (hE8 _ (hN5 ([g1,g2,g3,g4],[r2]) _ ⟨?_,?_⟩ ?_ ?_))))
    ·rw [← hi1,endL_drop hold]
    ·simp
    ·simp
    ·exact Le_ks [2,3,4] [2,410,550,551,552,553,570]
   ·refine Aw_skip (hB9 _ ?_)
    refine Aw_tx hE [2,3,4] [2,410,550,551,552,553,554,555,556,570,571,572,573,574,575,576] fun K hK=>?_
    simp only [go_sem,seval]
    refine hK _ (hN8 _ (hN5 ([g1,g2,g3,g4,r1],[r2]) _ ⟨?_,?_⟩ ?_ ?_))
    ·rw [← hi1,endL_keep hold];rfl
    ·simp
    ·simp
    ·refine (Le_swb _ 571 554 (by decide) (by decide)).trans ?_
     simp only [St.swb,swbσ,swbm,AV.swb,AV.swbAll,swp,Nat.reduceEqDiff,if_true,if_false,reduceIte,gcs,List.cons_append,List.nil_append]
     exact Le_ks [2,3,4] [2,410,550,551,552,553,554,570]
  ·simp at ho
  ·simp at ho
 ·have ho:o.length≤3:=by simp only [List.length_cons,List.length_nil] at hi2;omega
  rcases six (Nat.le_trans ho (by decide)) with rfl | ⟨g1,rfl⟩ | ⟨g1,g2,rfl⟩ | ⟨g1,g2,g3,rfl⟩ | ⟨g1,g2,g3,g4,rfl⟩ | ⟨g1,g2,g3,g4,g5,rfl⟩ | ⟨g1,g2,g3,g4,g5,g6,rfl⟩
  ·refine Aw_stP hE [2,3,4,17] [2,410,550,551,552,553,554,555,556,570,571,572,573,574,575,576] fun K hK=>?_
   simp only [go_sem,seval]
   refine hK _ (Aw_yes rfl (Aw_skip (hB6 _ ?_)))
   refine Aw_bk fun B8 hN8 hE8 hR8 hX8=>?_
   refine Aw_sq fun B9 hB9 hR9 hX9=>?_
   refine Aw_st hE [2,3,4,24] [2,410,550,551,552,553,554,555,556,570,571,572,573,574,575,576] fun K hK=>?_
   simp only [go_sem,seval]
   refine hK _ (Aw_cond rfl (fun hold=>?_) (fun hold=>?_))
   ·skip
    refine Aw_st hE [2,3,4] [2,410,550,551,552,553,554,555,556,570,571,572,573,574,575,576] fun K hK=>?_
    simp only [go_sem,seval]
    refine hK _ (Aw_exit (hX9 _ _ (hE8 _ (hN5 ([],[r2,r3]) _ ⟨?_,?_⟩ ?_ ?_))))
    ·rw [← hi1,endL_drop hold]
    ·simp
    ·simp
    ·exact Le_ks [2,3,4] [2,410,571,570]
   ·refine Aw_skip (hB9 _ ?_)
    refine Aw_tx hE [2,3,4] [2,410,550,551,552,553,554,555,556,570,571,572,573,574,575,576] fun K hK=>?_
    simp only [go_sem,seval]
    refine hK _ (hN8 _ (hN5 ([r1],[r2,r3]) _ ⟨?_,?_⟩ ?_ ?_))
    ·rw [← hi1,endL_keep hold];rfl
    ·simp
    ·simp
    ·refine (Le_swb _ 572 550 (by decide) (by decide)).trans ?_
     simp only [St.swb,swbσ,swbm,AV.swb,AV.swbAll,swp,Nat.reduceEqDiff,if_true,if_false,reduceIte,gcs,List.cons_append,List.nil_append]
     exact Le_ks [2,3,4] [2,410,550,571,570]
  ·refine Aw_stP hE [2,3,4,17] [2,410,550,551,552,553,554,555,556,570,571,572,573,574,575,576] fun K hK=>?_
   simp only [go_sem,seval]
   refine hK _ (Aw_yes rfl (Aw_skip (hB6 _ ?_)))
   refine Aw_bk fun B8 hN8 hE8 hR8 hX8=>?_
   refine Aw_sq fun B9 hB9 hR9 hX9=>?_
   refine Aw_st hE [2,3,4,24] [2,410,550,551,552,553,554,555,556,570,571,572,573,574,575,576] fun K hK=>?_
   simp only [go_sem,seval]
   refine hK _ (Aw_cond rfl (fun hold=>?_) (fun hold=>?_))
   ·skip
    refine Aw_st hE [2,3,4] [2,410,550,551,552,553,554,555,556,570,571,572,573,574,575,576] fun K hK=>?_
    simp only [go_sem,seval]
    refine hK _ (Aw_exit (hX9 _ _ (hE8 _ (hN5 ([g1],[r2,r3]) _ ⟨?_,?_⟩ ?_ ?_))))
    ·rw [← hi1,endL_drop hold]
    ·simp
    ·simp
    ·exact Le_ks [2,3,4] [2,410,550,571,570]
   ·refine Aw_skip (hB9 _ ?_)
    refine Aw_tx hE [2,3,4] [2,410,550,551,552,553,554,555,556,570,571,572,573,574,575,576] fun K hK=>?_
    simp only [go_sem,seval]
    refine hK _ (hN8 _ (hN5 ([g1,r1],[r2,r3]) _ ⟨?_,?_⟩ ?_ ?_))
    ·rw [← hi1,endL_keep hold];rfl
    ·simp
    ·simp
    ·refine (Le_swb _ 572 551 (by decide) (by decide)).trans ?_
     simp only [St.swb,swbσ,swbm,AV.swb,AV.swbAll,swp,Nat.reduceEqDiff,if_true,if_false,reduceIte,gcs,List.cons_append,List.nil_append]
     exact Le_ks [2,3,4] [2,410,550,551,571,570]
  ·refine Aw_stP hE [2,3,4,17] [2,410,550,551,552,553,554,555,556,570,571,572,573,574,575,576] fun K hK=>?_
   simp only [go_sem,seval]
   refine hK _ (Aw_yes rfl (Aw_skip (hB6 _ ?_)))
   refine Aw_bk fun B8 hN8 hE8 hR8 hX8=>?_
   refine Aw_sq fun B9 hB9 hR9 hX9=>?_
   refine Aw_st hE [2,3,4,24] [2,410,550,551,552,553,554,555,556,570,571,572,573,574,575,576] fun K hK=>?_
   simp only [go_sem,seval]
   refine hK _ (Aw_cond rfl (fun hold=>?_) (fun hold=>?_))
   ·skip
    refine Aw_st hE [2,3,4] [2,410,550,551,552,553,554,555,556,570,571,572,573,574,575,576] fun K hK=>?_
    simp only [go_sem,seval]
    refine hK _ (Aw_exit (hX9 _ _ (hE8 _ (hN5 ([g1,g2],[r2,r3]) _ ⟨?_,?_⟩ ?_ ?_))))
    ·rw [← hi1,endL_drop hold]
    ·simp
    ·simp
    ·exact Le_ks [2,3,4] [2,410,550,551,571,570]
   ·refine Aw_skip (hB9 _ ?_)
    refine Aw_tx hE [2,3,4] [2,410,550,551,552,553,554,555,556,570,571,572,573,574,575,576] fun K hK=>?_
    simp only [go_sem,seval]
    refine hK _ (hN8 _ (hN5 ([g1,g2,r1],[r2,r3]) _ ⟨?_,?_⟩ ?_ ?_))
    ·rw [← hi1,endL_keep hold];rfl
    ·simp
    ·simp
    ·refine (Le_swb _ 572 552 (by decide) (by decide)).trans ?_
     simp only [St.swb,swbσ,swbm,AV.swb,AV.swbAll,swp,Nat.reduceEqDiff,if_true,if_false,reduceIte,gcs,List.cons_append,List.nil_append]
     exact Le_ks [2,3,4] [2,410,550,551,552,571,570]
  ·refine Aw_stP hE [2,3,4,17] [2,410,550,551,552,553,554,555,556,570,571,572,573,574,575,576] fun K hK=>?_
   simp only [go_sem,seval]
   refine hK _ (Aw_yes rfl (Aw_skip (hB6 _ ?_)))
   refine Aw_bk fun B8 hN8 hE8 hR8 hX8=>?_
   refine Aw_sq fun B9 hB9 hR9 hX9=>?_
   refine Aw_st hE [2,3,4,24] [2,410,550,551,552,553,554,555,556,570,571,572,573,574,575,576] fun K hK=>?_
   simp only [go_sem,seval]
   refine hK _ (Aw_cond rfl (fun hold=>?_) (fun hold=>?_))
   ·skip
    refine Aw_st hE [2,3,4] [2,410,550,551,552,553,554,555,556,570,571,572,573,574,575,576] fun K hK=>?_
    simp only [go_sem,seval]
    refine hK _ (Aw_exit (hX9 _ _ (hE8 _ (hN5 ([g1,g2,g3],[r2,r3]) _ ⟨?_,?_⟩ ?_ ?_))))
    ·rw [← hi1,endL_drop hold]
    ·simp
    ·simp
    ·exact Le_ks [2,3,4] [2,410,550,551,552,571,570]
   ·refine Aw_skip (hB9 _ ?_)
    refine Aw_tx hE [2,3,4] [2,410,550,551,552,553,554,555,556,570,571,572,573,574,575,576] fun K hK=>?_
    simp only [go_sem,seval]
    refine hK _ (hN8 _ (hN5 ([g1,g2,g3,r1],[r2,r3]) _ ⟨?_,?_⟩ ?_ ?_))
    ·rw [← hi1,endL_keep hold];rfl
    ·simp
    ·simp
    ·refine (Le_swb _ 572 553 (by decide) (by decide)).trans ?_
     simp only [St.swb,swbσ,swbm,AV.swb,AV.swbAll,swp,Nat.reduceEqDiff,if_true,if_false,reduceIte,gcs,List.cons_append,List.nil_append]
     exact Le_ks [2,3,4] [2,410,550,551,552,553,571,570]
  ·simp at ho
  ·simp at ho
  ·simp at ho
 ·have ho:o.length≤2:=by simp only [List.length_cons,List.length_nil] at hi2;omega
  rcases six (Nat.le_trans ho (by decide)) with rfl | ⟨g1,rfl⟩ | ⟨g1,g2,rfl⟩ | ⟨g1,g2,g3,rfl⟩ | ⟨g1,g2,g3,g4,rfl⟩ | ⟨g1,g2,g3,g4,g5,rfl⟩ | ⟨g1,g2,g3,g4,g5,g6,rfl⟩
  ·refine Aw_stP hE [2,3,4,17] [2,410,550,551,552,553,554,555,556,570,571,572,573,574,575,576] fun K hK=>?_
   simp only [go_sem,seval]
   refine hK _ (Aw_yes rfl (Aw_skip (hB6 _ ?_)))
   refine Aw_bk fun B8 hN8 hE8 hR8 hX8=>?_
   refine Aw_sq fun B9 hB9 hR9 hX9=>?_
   refine Aw_st hE [2,3,4,24] [2,410,550,551,552,553,554,555,556,570,571,572,573,574,575,576] fun K hK=>?_
   simp only [go_sem,seval]
   refine hK _ (Aw_cond rfl (fun hold=>?_) (fun hold=>?_))
   ·skip
    refine Aw_st hE [2,3,4] [2,410,550,551,552,553,554,555,556,570,571,572,573,574,575,576] fun K hK=>?_
    simp only [go_sem,seval]
    refine hK _ (Aw_exit (hX9 _ _ (hE8 _ (hN5 ([],[r2,r3,r4]) _ ⟨?_,?_⟩ ?_ ?_))))
    ·rw [← hi1,endL_drop hold]
    ·simp
    ·simp
    ·exact Le_ks [2,3,4] [2,410,572,571,570]
   ·refine Aw_skip (hB9 _ ?_)
    refine Aw_tx hE [2,3,4] [2,410,550,551,552,553,554,555,556,570,571,572,573,574,575,576] fun K hK=>?_
    simp only [go_sem,seval]
    refine hK _ (hN8 _ (hN5 ([r1],[r2,r3,r4]) _ ⟨?_,?_⟩ ?_ ?_))
    ·rw [← hi1,endL_keep hold];rfl
    ·simp
    ·simp
    ·refine (Le_swb _ 573 550 (by decide) (by decide)).trans ?_
     simp only [St.swb,swbσ,swbm,AV.swb,AV.swbAll,swp,Nat.reduceEqDiff,if_true,if_false,reduceIte,gcs,List.cons_append,List.nil_append]
     exact Le_ks [2,3,4] [2,410,550,572,571,570]
  ·refine Aw_stP hE [2,3,4,17] [2,410,550,551,552,553,554,555,556,570,571,572,573,574,575,576] fun K hK=>?_
   simp only [go_sem,seval]
   refine hK _ (Aw_yes rfl (Aw_skip (hB6 _ ?_)))
   refine Aw_bk fun B8 hN8 hE8 hR8 hX8=>?_
   refine Aw_sq fun B9 hB9 hR9 hX9=>?_
   refine Aw_st hE [2,3,4,24] [2,410,550,551,552,553,554,555,556,570,571,572,573,574,575,576] fun K hK=>?_
   simp only [go_sem,seval]
   refine hK _ (Aw_cond rfl (fun hold=>?_) (fun hold=>?_))
   ·skip
    refine Aw_st hE [2,3,4] [2,410,550,551,552,553,554,555,556,570,571,572,573,574,575,576] fun K hK=>?_
    simp only [go_sem,seval]
    refine hK _ (Aw_exit (hX9 _ _ (hE8 _ (hN5 ([g1],[r2,r3,r4]) _ ⟨?_,?_⟩ ?_ ?_))))
    ·rw [← hi1,endL_drop hold]
    ·simp
    ·simp
    ·exact Le_ks [2,3,4] [2,410,550,572,571,570]
   ·refine Aw_skip (hB9 _ ?_)
    refine Aw_tx hE [2,3,4] [2,410,550,551,552,553,554,555,556,570,571,572,573,574,575,576] fun K hK=>?_
    simp only [go_sem,seval]
    refine hK _ (hN8 _ (hN5 ([g1,r1],[r2,r3,r4]) _ ⟨?_,?_⟩ ?_ ?_))
    ·rw [← hi1,endL_keep hold];rfl
    ·simp
    ·simp
    ·refine (Le_swb _ 573 551 (by decide) (by decide)).trans ?_
     simp only [St.swb,swbσ,swbm,AV.swb,AV.swbAll,swp,Nat.reduceEqDiff,if_true,if_false,reduceIte,gcs,List.cons_append,List.nil_append]
     exact Le_ks [2,3,4] [2,410,550,551,572,571,570]
  ·refine Aw_stP hE [2,3,4,17] [2,410,550,551,552,553,554,555,556,570,571,572,573,574,575,576] fun K hK=>?_
   simp only [go_sem,seval]
   refine hK _ (Aw_yes rfl (Aw_skip (hB6 _ ?_)))
   refine Aw_bk fun B8 hN8 hE8 hR8 hX8=>?_
   refine Aw_sq fun B9 hB9 hR9 hX9=>?_
   refine Aw_st hE [2,3,4,24] [2,410,550,551,552,553,554,555,556,570,571,572,573,574,575,576] fun K hK=>?_
   simp only [go_sem,seval]
   refine hK _ (Aw_cond rfl (fun hold=>?_) (fun hold=>?_))
   ·skip
    refine Aw_st hE [2,3,4] [2,410,550,551,552,553,554,555,556,570,571,572,573,574,575,576] fun K hK=>?_
    simp only [go_sem,seval]
    refine hK _ (Aw_exit (hX9 _ _ (hE8 _ (hN5 ([g1,g2],[r2,r3,r4]) _ ⟨?_,?_⟩ ?_ ?_))))
    ·rw [← hi1,endL_drop hold]
    ·simp
    ·simp
    ·exact Le_ks [2,3,4] [2,410,550,551,572,571,570]
   ·refine Aw_skip (hB9 _ ?_)
    refine Aw_tx hE [2,3,4] [2,410,550,551,552,553,554,555,556,570,571,572,573,574,575,576] fun K hK=>?_
    simp only [go_sem,seval]
    refine hK _ (hN8 _ (hN5 ([g1,g2,r1],[r2,r3,r4]) _ ⟨?_,?_⟩ ?_ ?_))
    ·rw [← hi1,endL_keep hold];rfl
    ·simp
    ·simp
    ·refine (Le_swb _ 573 552 (by decide) (by decide)).trans ?_
     simp only [St.swb,swbσ,swbm,AV.swb,AV.swbAll,swp,Nat.reduceEqDiff,if_true,if_false,reduceIte,gcs,List.cons_append,List.nil_append]
     exact Le_ks [2,3,4] [2,410,550,551,552,572,571,570]
  ·simp at ho
  ·simp at ho
  ·simp at ho
  ·simp at ho
 ·have ho:o.length≤1:=by simp only [List.length_cons,List.length_nil] at hi2;omega
  rcases six (Nat.le_trans ho (by decide)) with rfl | ⟨g1,rfl⟩ | ⟨g1,g2,rfl⟩ | ⟨g1,g2,g3,rfl⟩ | ⟨g1,g2,g3,g4,rfl⟩ | ⟨g1,g2,g3,g4,g5,rfl⟩ | ⟨g1,g2,g3,g4,g5,g6,rfl⟩
  ·refine Aw_stP hE [2,3,4,17] [2,410,550,551,552,553,554,555,556,570,571,572,573,574,575,576] fun K hK=>?_
   simp only [go_sem,seval]
   refine hK _ (Aw_yes rfl (Aw_skip (hB6 _ ?_)))
   refine Aw_bk fun B8 hN8 hE8 hR8 hX8=>?_
   refine Aw_sq fun B9 hB9 hR9 hX9=>?_
   refine Aw_st hE [2,3,4,24] [2,410,550,551,552,553,554,555,556,570,571,572,573,574,575,576] fun K hK=>?_
   simp only [go_sem,seval]
   refine hK _ (Aw_cond rfl (fun hold=>?_) (fun hold=>?_))
   ·skip
    refine Aw_st hE [2,3,4] [2,410,550,551,552,553,554,555,556,570,571,572,573,574,575,576] fun K hK=>?_
    simp only [go_sem,seval]
    refine hK _ (Aw_exit (hX9 _ _ (hE8 _ (hN5 ([],[r2,r3,r4,r5]) _ ⟨?_,?_⟩ ?_ ?_))))
    ·rw [← hi1,endL_drop hold]
    ·simp
    ·simp
    ·exact Le_ks [2,3,4] [2,410,573,572,571,570]
   ·refine Aw_skip (hB9 _ ?_)
    refine Aw_tx hE [2,3,4] [2,410,550,551,552,553,554,555,556,570,571,572,573,574,575,576] fun K hK=>?_
    simp only [go_sem,seval]
    refine hK _ (hN8 _ (hN5 ([r1],[r2,r3,r4,r5]) _ ⟨?_,?_⟩ ?_ ?_))
    ·rw [← hi1,endL_keep hold];rfl
    ·simp
    ·simp
    ·refine (Le_swb _ 574 550 (by decide) (by decide)).trans ?_
     simp only [St.swb,swbσ,swbm,AV.swb,AV.swbAll,swp,Nat.reduceEqDiff,if_true,if_false,reduceIte,gcs,List.cons_append,List.nil_append]
     exact Le_ks [2,3,4] [2,410,550,573,572,571,570]
  ·refine Aw_stP hE [2,3,4,17] [2,410,550,551,552,553,554,555,556,570,571,572,573,574,575,576] fun K hK=>?_
   simp only [go_sem,seval]
   refine hK _ (Aw_yes rfl (Aw_skip (hB6 _ ?_)))
   refine Aw_bk fun B8 hN8 hE8 hR8 hX8=>?_
   refine Aw_sq fun B9 hB9 hR9 hX9=>?_
   refine Aw_st hE [2,3,4,24] [2,410,550,551,552,553,554,555,556,570,571,572,573,574,575,576] fun K hK=>?_
   simp only [go_sem,seval]
   refine hK _ (Aw_cond rfl (fun hold=>?_) (fun hold=>?_))
   ·skip
    refine Aw_st hE [2,3,4] [2,410,550,551,552,553,554,555,556,570,571,572,573,574,575,576] fun K hK=>?_
    simp only [go_sem,seval]
    refine hK _ (Aw_exit (hX9 _ _ (hE8 _ (hN5 ([g1],[r2,r3,r4,r5]) _ ⟨?_,?_⟩ ?_ ?_))))
    ·rw [← hi1,endL_drop hold]
    ·simp
    ·simp
    ·exact Le_ks [2,3,4] [2,410,550,573,572,571,570]
   ·refine Aw_skip (hB9 _ ?_)
    refine Aw_tx hE [2,3,4] [2,410,550,551,552,553,554,555,556,570,571,572,573,574,575,576] fun K hK=>?_
    simp only [go_sem,seval]
    refine hK _ (hN8 _ (hN5 ([g1,r1],[r2,r3,r4,r5]) _ ⟨?_,?_⟩ ?_ ?_))
    ·rw [← hi1,endL_keep hold];rfl
    ·simp
    ·simp
    ·refine (Le_swb _ 574 551 (by decide) (by decide)).trans ?_
     simp only [St.swb,swbσ,swbm,AV.swb,AV.swbAll,swp,Nat.reduceEqDiff,if_true,if_false,reduceIte,gcs,List.cons_append,List.nil_append]
     exact Le_ks [2,3,4] [2,410,550,551,573,572,571,570]
  ·simp at ho
  ·simp at ho
  ·simp at ho
  ·simp at ho
  ·simp at ho
 ·have ho:o.length≤0:=by simp only [List.length_cons,List.length_nil] at hi2;omega
  rcases six (Nat.le_trans ho (by decide)) with rfl | ⟨g1,rfl⟩ | ⟨g1,g2,rfl⟩ | ⟨g1,g2,g3,rfl⟩ | ⟨g1,g2,g3,g4,rfl⟩ | ⟨g1,g2,g3,g4,g5,rfl⟩ | ⟨g1,g2,g3,g4,g5,g6,rfl⟩
  ·refine Aw_stP hE [2,3,4,17] [2,410,550,551,552,553,554,555,556,570,571,572,573,574,575,576] fun K hK=>?_
   simp only [go_sem,seval]
   refine hK _ (Aw_yes rfl (Aw_skip (hB6 _ ?_)))
   refine Aw_bk fun B8 hN8 hE8 hR8 hX8=>?_
   refine Aw_sq fun B9 hB9 hR9 hX9=>?_
   refine Aw_st hE [2,3,4,24] [2,410,550,551,552,553,554,555,556,570,571,572,573,574,575,576] fun K hK=>?_
   simp only [go_sem,seval]
   refine hK _ (Aw_cond rfl (fun hold=>?_) (fun hold=>?_))
   ·skip
    refine Aw_st hE [2,3,4] [2,410,550,551,552,553,554,555,556,570,571,572,573,574,575,576] fun K hK=>?_
    simp only [go_sem,seval]
    refine hK _ (Aw_exit (hX9 _ _ (hE8 _ (hN5 ([],[r2,r3,r4,r5,r6]) _ ⟨?_,?_⟩ ?_ ?_))))
    ·rw [← hi1,endL_drop hold]
    ·simp
    ·simp
    ·exact Le_ks [2,3,4] [2,410,574,573,572,571,570]
   ·refine Aw_skip (hB9 _ ?_)
    refine Aw_tx hE [2,3,4] [2,410,550,551,552,553,554,555,556,570,571,572,573,574,575,576] fun K hK=>?_
    simp only [go_sem,seval]
    refine hK _ (hN8 _ (hN5 ([r1],[r2,r3,r4,r5,r6]) _ ⟨?_,?_⟩ ?_ ?_))
    ·rw [← hi1,endL_keep hold];rfl
    ·simp
    ·simp
    ·refine (Le_swb _ 575 550 (by decide) (by decide)).trans ?_
     simp only [St.swb,swbσ,swbm,AV.swb,AV.swbAll,swp,Nat.reduceEqDiff,if_true,if_false,reduceIte,gcs,List.cons_append,List.nil_append]
     exact Le_ks [2,3,4] [2,410,550,574,573,572,571,570]
  ·simp at ho
  ·simp at ho
  ·simp at ho
  ·simp at ho
  ·simp at ho
  ·simp at ho
end Go.Proofs.W
end
section
namespace Go.Proofs.W
open Go Go.Eng Go.RowKit
set_option linter.unusedSimpArgs false
set_option maxRecDepth 100000
set_option maxHeartbeats 8000000 in
theorem ribEnd_rest (pb:Addr) {E:En} (hE:TbOk E (tbEnd pb)) {h0:Int} {up:Bool} {n:Int} {k:Nat} (o:List Gt) (ho:o.length≤6) {Q:Exit→St→Prop} (hQ:∀ st,retD TT #[Go.ResultVar.cell 2 25].toList false (.agg [iv h0,bv up,.sl none (grows o)]) st→Q .ret st):Aw E (sndC (sndC (sndC (sndC (Tryz.f31.body.getD .skip))))) (endX h0 up n k o) Q:=by
 rcases six ho with rfl | ⟨g1,rfl⟩ | ⟨g1,g2,rfl⟩ | ⟨g1,g2,g3,rfl⟩ | ⟨g1,g2,g3,g4,rfl⟩ | ⟨g1,g2,g3,g4,g5,rfl⟩ | ⟨g1,g2,g3,g4,g5,g6,rfl⟩
 ·simp only [endX]
  simp only [go_sem,seval]
  refine Aw_frz hE rfl 410 4 rfl rfl ?_
  simp only [go_sem,seval]
  refine Aw_st hE [2] [2] fun K hK=>?_
  simp only [go_sem,seval]
  refine ⟨ribL_p [] (by simp),ribL_q [] ?_⟩
  simp only [go_sem,seval]
  refine hK _ (Aw_ret (hQ _ ?_))
  simp only [go_sem,seval]
  all_goals rfl
 ·simp only [endX]
  simp only [go_sem,seval]
  refine Aw_frz hE rfl 550 7 rfl rfl ?_
  simp only [go_sem,seval]
  refine Aw_frz hE rfl 410 4 rfl rfl ?_
  simp only [go_sem,seval]
  refine Aw_st hE [2] [2] fun K hK=>?_
  simp only [go_sem,seval]
  refine ⟨ribL_p [g1] (by simp),ribL_q [g1] ?_⟩
  simp only [go_sem,seval]
  refine hK _ (Aw_ret (hQ _ ?_))
  simp only [go_sem,seval]
  all_goals rfl
 ·simp only [endX]
  simp only [go_sem,seval]
  refine Aw_frz hE rfl 551 7 rfl rfl ?_
  simp only [go_sem,seval]
  refine Aw_frz hE rfl 550 7 rfl rfl ?_
  simp only [go_sem,seval]
  refine Aw_frz hE rfl 410 4 rfl rfl ?_
  simp only [go_sem,seval]
  refine Aw_st hE [2] [2] fun K hK=>?_
  simp only [go_sem,seval]
  refine ⟨ribL_p [g1,g2] (by simp),ribL_q [g1,g2] ?_⟩
  simp only [go_sem,seval]
  refine hK _ (Aw_ret (hQ _ ?_))
  simp only [go_sem,seval]
  all_goals rfl
 ·simp only [endX]
  simp only [go_sem,seval]
  refine Aw_frz hE rfl 552 7 rfl rfl ?_
  simp only [go_sem,seval]
  refine Aw_frz hE rfl 551 7 rfl rfl ?_
  simp only [go_sem,seval]
  refine Aw_frz hE rfl 550 7 rfl rfl ?_
  simp only [go_sem,seval]
  refine Aw_frz hE rfl 410 4 rfl rfl ?_
  simp only [go_sem,seval]
  refine Aw_st hE [2] [2] fun K hK=>?_
  simp only [go_sem,seval]
  refine ⟨ribL_p [g1,g2,g3] (by simp),ribL_q [g1,g2,g3] ?_⟩
  simp only [go_sem,seval]
  refine hK _ (Aw_ret (hQ _ ?_))
  simp only [go_sem,seval]
  all_goals rfl
 ·simp only [endX]
  simp only [go_sem,seval]
  refine Aw_frz hE rfl 553 7 rfl rfl ?_
  simp only [go_sem,seval]
  refine Aw_frz hE rfl 552 7 rfl rfl ?_
  simp only [go_sem,seval]
  refine Aw_frz hE rfl 551 7 rfl rfl ?_
  simp only [go_sem,seval]
  refine Aw_frz hE rfl 550 7 rfl rfl ?_
  simp only [go_sem,seval]
  refine Aw_frz hE rfl 410 4 rfl rfl ?_
  simp only [go_sem,seval]
  refine Aw_st hE [2] [2] fun K hK=>?_
  simp only [go_sem,seval]
  refine ⟨ribL_p [g1,g2,g3,g4] (by simp),ribL_q [g1,g2,g3,g4] ?_⟩
  simp only [go_sem,seval]
  refine hK _ (Aw_ret (hQ _ ?_))
  simp only [go_sem,seval]
  all_goals rfl
 ·simp only [endX]
  simp only [go_sem,seval]
  refine Aw_frz hE rfl 554 7 rfl rfl ?_
  simp only [go_sem,seval]
  refine Aw_frz hE rfl 553 7 rfl rfl ?_
  simp only [go_sem,seval]
  refine Aw_frz hE rfl 552 7 rfl rfl ?_
  simp only [go_sem,seval]
  refine Aw_frz hE rfl 551 7 rfl rfl ?_
  simp only [go_sem,seval]
  refine Aw_frz hE rfl 550 7 rfl rfl ?_
  simp only [go_sem,seval]
  refine Aw_frz hE rfl 410 4 rfl rfl ?_
  simp only [go_sem,seval]
  refine Aw_st hE [2] [2] fun K hK=>?_
  simp only [go_sem,seval]
  refine ⟨ribL_p [g1,g2,g3,g4,g5] (by simp),ribL_q [g1,g2,g3,g4,g5] ?_⟩
  simp only [go_sem,seval]
  refine hK _ (Aw_ret (hQ _ ?_))
  simp only [go_sem,seval]
  all_goals rfl
 ·simp only [endX]
  simp only [go_sem,seval]
  refine Aw_frz hE rfl 555 7 rfl rfl ?_
  simp only [go_sem,seval]
  refine Aw_frz hE rfl 554 7 rfl rfl ?_
  simp only [go_sem,seval]
  refine Aw_frz hE rfl 553 7 rfl rfl ?_
  simp only [go_sem,seval]
  refine Aw_frz hE rfl 552 7 rfl rfl ?_
  simp only [go_sem,seval]
  refine Aw_frz hE rfl 551 7 rfl rfl ?_
  simp only [go_sem,seval]
  refine Aw_frz hE rfl 550 7 rfl rfl ?_
  simp only [go_sem,seval]
  refine Aw_frz hE rfl 410 4 rfl rfl ?_
  simp only [go_sem,seval]
  refine Aw_st hE [2] [2] fun K hK=>?_
  simp only [go_sem,seval]
  refine ⟨ribL_p [g1,g2,g3,g4,g5,g6] (by simp),ribL_q [g1,g2,g3,g4,g5,g6] ?_⟩
  simp only [go_sem,seval]
  refine hK _ (Aw_ret (hQ _ ?_))
  simp only [go_sem,seval]
  all_goals rfl
def dRibEndI (pb:Addr):DFn:={ g:=gRibEnd,inv:=WP pb }
attribute [go_sem] dRibEndI
set_option maxHeartbeats 8000000 in
theorem iRibEnd_ok (pb:Addr):Fine Tryz.prog 31 (dRibEndI pb).con:=by
 refine fine_detX [] gl_nil [] ms_nil [(42,(cOpen,[],[(600,400),(601,401),(602,402),(603,403),(604,404),(605,405),(606,406)]))] (mm_cons open_ok (by decide) mm_nil (wp_mm pb)) [] [] ex_nil (T:=TT) Tryz.func31 rfl Tryz.ntmps31 (by rw [Tryz.results31]) rfl rfl tt (gs_cons ribL_ok gs_nil) (ds_cons (iRibOk_ok pb) ds_nil (wp_inh pb)) ?_
 intro args c r h hc
 simp only [dRibEndI,gRibEnd] at h
 split at h
 rotate_left
 ·cases h
 split at h
 rotate_left
 ·cases h
 rename_i h0 up t els _ l hgo
 obtain rfl:=gotsL_eq hgo
 obtain ⟨rfl,rfl⟩:=Prod.mk.inj (Option.some.inj h)
 refine ⟨by simp,fun k E hE Q hQ=>?_⟩
 refine Aw_st hE [1,2] [1,2,410,411,412,413,414,415,416] fun K hK=>?_
 simp only [go_sem,seval]
 refine hK _ ?_;clear hK K
 refine Aw_sq fun B1 hB1 hR1 hX1=>?_
 refine Aw_st hE [1,2,7] [1,2,410,411,412,413,414,415,416] fun K hK=>?_
 simp only [go_sem,seval]
 refine ⟨⟨by omega,hc.2⟩,?_⟩
 refine hK _ (Aw_cond rfl (fun hc2=>?_) (fun hc2=>?_))
 ·have hok:ribOk ⟨h0,up,l⟩=false:=by simpa using hc2
  refine Aw_st hE [2] [1,2,410,411,412,413,414,415,416] fun K hK=>?_
  simp only [go_sem,seval]
  refine hK _ (Aw_ret (hR1 _ (hQ _ ?_)))
  simp only [go_sem,seval]
  rw [hok];rfl
 have hok:ribOk ⟨h0,up,l⟩=true:=by simpa using hc2
 rw [hok] at hQ
 simp only [if_true] at hQ
 have hl6:=(ribOk_iff.1 hok).2.1
 have hel:=endL_len l
 refine Aw_skip (hB1 _ ?_)
 rcases six hl6 with hl | ⟨g1,hl⟩ | ⟨g1,g2,hl⟩ | ⟨g1,g2,g3,hl⟩ | ⟨g1,g2,g3,g4,hl⟩ | ⟨g1,g2,g3,g4,g5,hl⟩ | ⟨g1,g2,g3,g4,g5,g6,hl⟩
 ·have hses:sesB h0 up l=[(600,[iv h0,bv up,.v (.pointer none),iv ((0:Nat):Int)])]:=by rw [hl];rfl
  have hop:=fun (m1:List (Nat × List AV)) (K:AV→List (Nat × List AV)→Prop)=>open_postL hses m1 K
  refine Aw_st hE [2,3] [1,2,410,411,412,413,414,415,416] fun K hK=>?_
  simp only [go_sem,seval,↓hop]
  refine ⟨by decide,⟨hl6,hc.2⟩,?_⟩
  subst hl
  refine hK _ ?_;clear hK K
  refine Aw_sq fun B3 hB3 hR3 hX3=>?_
  refine Aw_st hE [2,3,4] [1,2,410,411,412,413,414,415,416] fun K hK=>?_
  simp only [go_sem,seval]
  refine hK _ ?_
  refine Aw.leE (Le_E (Le_ks [2,3,4] [2,410])) ?_
  exact ribEnd_loop pb hE (l:=[]) (up:=up) (h0:=h0) (k:=k) (n:=((0:Nat):Int)) hl6 fun st' hle=>hB3 _ (Aw.leE hle (ribEnd_rest pb hE _ (by omega) hQ))
 ·have hses:sesB h0 up l=[(600,[iv h0,bv up,.loc 601 0,iv ((1:Nat):Int)]),(601,gcs g1++[.v (.pointer none)])]:=by rw [hl];rfl
  have hop:=fun (m1:List (Nat × List AV)) (K:AV→List (Nat × List AV)→Prop)=>open_postL hses m1 K
  refine Aw_st hE [2,3] [1,2,410,411,412,413,414,415,416] fun K hK=>?_
  simp only [go_sem,seval,↓hop]
  refine ⟨by decide,⟨hl6,hc.2⟩,?_⟩
  subst hl
  refine hK _ ?_;clear hK K
  refine Aw_sq fun B3 hB3 hR3 hX3=>?_
  refine Aw_st hE [2,3,4] [1,2,410,411,412,413,414,415,416] fun K hK=>?_
  simp only [go_sem,seval]
  refine hK _ ?_
  refine Aw.leE (Le_E (Le_swb _ 411 570 (by decide) (by decide))) ?_
  simp only [St.swb,swbσ,swbm,AV.swb,AV.swbAll,swp,Nat.reduceEqDiff,if_true,if_false,reduceIte,gcs,List.cons_append,List.nil_append]
  refine Aw.leE (Le_E (Le_ks [2,3,4] [2,410,570])) ?_
  exact ribEnd_loop pb hE (l:=[g1]) (up:=up) (h0:=h0) (k:=k) (n:=((1:Nat):Int)) hl6 fun st' hle=>hB3 _ (Aw.leE hle (ribEnd_rest pb hE _ (by omega) hQ))
 ·have hses:sesB h0 up l=[(600,[iv h0,bv up,.loc 601 0,iv ((2:Nat):Int)]),(601,gcs g1++[.loc 602 0]),(602,gcs g2++[.v (.pointer none)])]:=by rw [hl];rfl
  have hop:=fun (m1:List (Nat × List AV)) (K:AV→List (Nat × List AV)→Prop)=>open_postL hses m1 K
  refine Aw_st hE [2,3] [1,2,410,411,412,413,414,415,416] fun K hK=>?_
  simp only [go_sem,seval,↓hop]
  refine ⟨by decide,⟨hl6,hc.2⟩,?_⟩
  subst hl
  refine hK _ ?_;clear hK K
  refine Aw_sq fun B3 hB3 hR3 hX3=>?_
  refine Aw_st hE [2,3,4] [1,2,410,411,412,413,414,415,416] fun K hK=>?_
  simp only [go_sem,seval]
  refine hK _ ?_
  refine Aw.leE (Le_E (Le_swb _ 411 571 (by decide) (by decide))) ?_
  simp only [St.swb,swbσ,swbm,AV.swb,AV.swbAll,swp,Nat.reduceEqDiff,if_true,if_false,reduceIte,gcs,List.cons_append,List.nil_append]
  refine Aw.leE (Le_E (Le_swb _ 412 570 (by decide) (by decide))) ?_
  simp only [St.swb,swbσ,swbm,AV.swb,AV.swbAll,swp,Nat.reduceEqDiff,if_true,if_false,reduceIte,gcs,List.cons_append,List.nil_append]
  refine Aw.leE (Le_E (Le_ks [2,3,4] [2,410,571,570])) ?_
  exact ribEnd_loop pb hE (l:=[g1,g2]) (up:=up) (h0:=h0) (k:=k) (n:=((2:Nat):Int)) hl6 fun st' hle=>hB3 _ (Aw.leE hle (ribEnd_rest pb hE _ (by omega) hQ))
 ·have hses:sesB h0 up l=[(600,[iv h0,bv up,.loc 601 0,iv ((3:Nat):Int)]),(601,gcs g1++[.loc 602 0]),(602,gcs g2++[.loc 603 0]),(603,gcs g3++[.v (.pointer none)])]:=by rw [hl];rfl
  have hop:=fun (m1:List (Nat × List AV)) (K:AV→List (Nat × List AV)→Prop)=>open_postL hses m1 K
  refine Aw_st hE [2,3] [1,2,410,411,412,413,414,415,416] fun K hK=>?_
  simp only [go_sem,seval,↓hop]
  refine ⟨by decide,⟨hl6,hc.2⟩,?_⟩
  subst hl
  refine hK _ ?_;clear hK K
  refine Aw_sq fun B3 hB3 hR3 hX3=>?_
  refine Aw_st hE [2,3,4] [1,2,410,411,412,413,414,415,416] fun K hK=>?_
  simp only [go_sem,seval]
  refine hK _ ?_
  refine Aw.leE (Le_E (Le_swb _ 411 572 (by decide) (by decide))) ?_
  simp only [St.swb,swbσ,swbm,AV.swb,AV.swbAll,swp,Nat.reduceEqDiff,if_true,if_false,reduceIte,gcs,List.cons_append,List.nil_append]
  refine Aw.leE (Le_E (Le_swb _ 412 571 (by decide) (by decide))) ?_
  simp only [St.swb,swbσ,swbm,AV.swb,AV.swbAll,swp,Nat.reduceEqDiff,if_true,if_false,reduceIte,gcs,List.cons_append,List.nil_append]
  refine Aw.leE (Le_E (Le_swb _ 413 570 (by decide) (by decide))) ?_
  simp only [St.swb,swbσ,swbm,AV.swb,AV.swbAll,swp,Nat.reduceEqDiff,if_true,if_false,reduceIte,gcs,List.cons_append,List.nil_append]
  refine Aw.leE (Le_E (Le_ks [2,3,4] [2,410,572,571,570])) ?_
  exact ribEnd_loop pb hE (l:=[g1,g2,g3]) (up:=up) (h0:=h0) (k:=k) (n:=((3:Nat):Int)) hl6 fun st' hle=>hB3 _ (Aw.leE hle (ribEnd_rest pb hE _ (by omega) hQ))
 ·have hses:sesB h0 up l=[(600,[iv h0,bv up,.loc 601 0,iv ((4:Nat):Int)]),(601,gcs g1++[.loc 602 0]),(602,gcs g2++[.loc 603 0]),(603,gcs g3++[.loc 604 0]),(604,gcs g4++[.v (.pointer none)])]:=by rw [hl];rfl
  have hop:=fun (m1:List (Nat × List AV)) (K:AV→List (Nat × List AV)→Prop)=>open_postL hses m1 K
  refine Aw_st hE [2,3] [1,2,410,411,412,413,414,415,416] fun K hK=>?_
  simp only [go_sem,seval,↓hop]
  refine ⟨by decide,⟨hl6,hc.2⟩,?_⟩
  subst hl
  refine hK _ ?_;clear hK K
  refine Aw_sq fun B3 hB3 hR3 hX3=>?_
  refine Aw_st hE [2,3,4] [1,2,410,411,412,413,414,415,416] fun K hK=>?_
  simp only [go_sem,seval]
  refine hK _ ?_
  refine Aw.leE (Le_E (Le_swb _ 411 573 (by decide) (by decide))) ?_
  simp only [St.swb,swbσ,swbm,AV.swb,AV.swbAll,swp,Nat.reduceEqDiff,if_true,if_false,reduceIte,gcs,List.cons_append,List.nil_append]
  refine Aw.leE (Le_E (Le_swb _ 412 572 (by decide) (by decide))) ?_
  simp only [St.swb,swbσ,swbm,AV.swb,AV.swbAll,swp,Nat.reduceEqDiff,if_true,if_false,reduceIte,gcs,List.cons_append,List.nil_append]
  refine Aw.leE (Le_E (Le_swb _ 413 571 (by decide) (by decide))) ?_
  simp only [St.swb,swbσ,swbm,AV.swb,AV.swbAll,swp,Nat.reduceEqDiff,if_true,if_false,reduceIte,gcs,List.cons_append,List.nil_append]
  refine Aw.leE (Le_E (Le_swb _ 414 570 (by decide) (by decide))) ?_
  simp only [St.swb,swbσ,swbm,AV.swb,AV.swbAll,swp,Nat.reduceEqDiff,if_true,if_false,reduceIte,gcs,List.cons_append,List.nil_append]
  refine Aw.leE (Le_E (Le_ks [2,3,4] [2,410,573,572,571,570])) ?_
  exact ribEnd_loop pb hE (l:=[g1,g2,g3,g4]) (up:=up) (h0:=h0) (k:=k) (n:=((4:Nat):Int)) hl6 fun st' hle=>hB3 _ (Aw.leE hle (ribEnd_rest pb hE _ (by omega) hQ))
 ·have hses:sesB h0 up l=[(600,[iv h0,bv up,.loc 601 0,iv ((5:Nat):Int)]),(601,gcs g1++[.loc 602 0]),(602,gcs g2++[.loc 603 0]),(603,gcs g3++[.loc 604 0]),(604,gcs g4++[.loc 605 0]),(605,gcs g5++[.v (.pointer none)])]:=by rw [hl];rfl
  have hop:=fun (m1:List (Nat × List AV)) (K:AV→List (Nat × List AV)→Prop)=>open_postL hses m1 K
  refine Aw_st hE [2,3] [1,2,410,411,412,413,414,415,416] fun K hK=>?_
  simp only [go_sem,seval,↓hop]
  refine ⟨by decide,⟨hl6,hc.2⟩,?_⟩
  subst hl
  refine hK _ ?_;clear hK K
  refine Aw_sq fun B3 hB3 hR3 hX3=>?_
  refine Aw_st hE [2,3,4] [1,2,410,411,412,413,414,415,416] fun K hK=>?_
  simp only [go_sem,seval]
  refine hK _ ?_
  refine Aw.leE (Le_E (Le_swb _ 411 574 (by decide) (by decide))) ?_
  simp only [St.swb,swbσ,swbm,AV.swb,AV.swbAll,swp,Nat.reduceEqDiff,if_true,if_false,reduceIte,gcs,List.cons_append,List.nil_append]
  refine Aw.leE (Le_E (Le_swb _ 412 573 (by decide) (by decide))) ?_
  simp only [St.swb,swbσ,swbm,AV.swb,AV.swbAll,swp,Nat.reduceEqDiff,if_true,if_false,reduceIte,gcs,List.cons_append,List.nil_append]
  refine Aw.leE (Le_E (Le_swb _ 413 572 (by decide) (by decide))) ?_
  simp only [St.swb,swbσ,swbm,AV.swb,AV.swbAll,swp,Nat.reduceEqDiff,if_true,if_false,reduceIte,gcs,List.cons_append,List.nil_append]
  refine Aw.leE (Le_E (Le_swb _ 414 571 (by decide) (by decide))) ?_
  simp only [St.swb,swbσ,swbm,AV.swb,AV.swbAll,swp,Nat.reduceEqDiff,if_true,if_false,reduceIte,gcs,List.cons_append,List.nil_append]
  refine Aw.leE (Le_E (Le_swb _ 415 570 (by decide) (by decide))) ?_
  simp only [St.swb,swbσ,swbm,AV.swb,AV.swbAll,swp,Nat.reduceEqDiff,if_true,if_false,reduceIte,gcs,List.cons_append,List.nil_append]
  refine Aw.leE (Le_E (Le_ks [2,3,4] [2,410,574,573,572,571,570])) ?_
  exact ribEnd_loop pb hE (l:=[g1,g2,g3,g4,g5]) (up:=up) (h0:=h0) (k:=k) (n:=((5:Nat):Int)) hl6 fun st' hle=>hB3 _ (Aw.leE hle (ribEnd_rest pb hE _ (by omega) hQ))
 ·have hses:sesB h0 up l=[(600,[iv h0,bv up,.loc 601 0,iv ((6:Nat):Int)]),(601,gcs g1++[.loc 602 0]),(602,gcs g2++[.loc 603 0]),(603,gcs g3++[.loc 604 0]),(604,gcs g4++[.loc 605 0]),(605,gcs g5++[.loc 606 0]),(606,gcs g6++[.v (.pointer none)])]:=by rw [hl];rfl
  have hop:=fun (m1:List (Nat × List AV)) (K:AV→List (Nat × List AV)→Prop)=>open_postL hses m1 K
  refine Aw_st hE [2,3] [1,2,410,411,412,413,414,415,416] fun K hK=>?_
  simp only [go_sem,seval,↓hop]
  refine ⟨by decide,⟨hl6,hc.2⟩,?_⟩
  subst hl
  refine hK _ ?_;clear hK K
  refine Aw_sq fun B3 hB3 hR3 hX3=>?_
  refine Aw_st hE [2,3,4] [1,2,410,411,412,413,414,415,416] fun K hK=>?_
  simp only [go_sem,seval]
  refine hK _ ?_
  refine Aw.leE (Le_E (Le_swb _ 411 575 (by decide) (by decide))) ?_
  simp only [St.swb,swbσ,swbm,AV.swb,AV.swbAll,swp,Nat.reduceEqDiff,if_true,if_false,reduceIte,gcs,List.cons_append,List.nil_append]
  refine Aw.leE (Le_E (Le_swb _ 412 574 (by decide) (by decide))) ?_
  simp only [St.swb,swbσ,swbm,AV.swb,AV.swbAll,swp,Nat.reduceEqDiff,if_true,if_false,reduceIte,gcs,List.cons_append,List.nil_append]
  refine Aw.leE (Le_E (Le_swb _ 413 573 (by decide) (by decide))) ?_
  simp only [St.swb,swbσ,swbm,AV.swb,AV.swbAll,swp,Nat.reduceEqDiff,if_true,if_false,reduceIte,gcs,List.cons_append,List.nil_append]
  refine Aw.leE (Le_E (Le_swb _ 414 572 (by decide) (by decide))) ?_
  simp only [St.swb,swbσ,swbm,AV.swb,AV.swbAll,swp,Nat.reduceEqDiff,if_true,if_false,reduceIte,gcs,List.cons_append,List.nil_append]
  refine Aw.leE (Le_E (Le_swb _ 415 571 (by decide) (by decide))) ?_
  simp only [St.swb,swbσ,swbm,AV.swb,AV.swbAll,swp,Nat.reduceEqDiff,if_true,if_false,reduceIte,gcs,List.cons_append,List.nil_append]
  refine Aw.leE (Le_E (Le_swb _ 416 570 (by decide) (by decide))) ?_
  simp only [St.swb,swbσ,swbm,AV.swb,AV.swbAll,swp,Nat.reduceEqDiff,if_true,if_false,reduceIte,gcs,List.cons_append,List.nil_append]
  refine Aw.leE (Le_E (Le_ks [2,3,4] [2,410,575,574,573,572,571,570])) ?_
  exact ribEnd_loop pb hE (l:=[g1,g2,g3,g4,g5,g6]) (up:=up) (h0:=h0) (k:=k) (n:=((6:Nat):Int)) hl6 fun st' hle=>hB3 _ (Aw.leE hle (ribEnd_rest pb hE _ (by omega) hQ))
end Go.Proofs.W
end
section
namespace Go.Proofs.W
open Go Go.Eng Go.RowKit
set_option linter.unusedSimpArgs false
set_option maxRecDepth 100000
/-! what a house told,and a range,are drawn -/
theorem ribD_post (args:List AV) (K:AV→Prop):(∀ r,cRibD.post args r→K r)=(∀ b:Rb,(b.all.length≤7∧lensG b.all)→K b.av):=by
 apply propext
 exact ⟨fun h p hp=>h _ ⟨p,hp,rfl⟩,fun h r ⟨p,hp,e⟩=>e ▸ h p hp⟩
theorem ribD_ex (args:List AV):(∃ r,cRibD.post args r)=True:=eq_true ⟨_,⟨0,false,[]⟩,⟨by simp,by intro g hg;cases hg⟩,rfl⟩
theorem ribD_pre' (h:Int):cRibD.pre [.rd,iv h]=(isH h=true):=by
 apply propext
 refine ⟨fun ⟨h',e,hh⟩=>?_,fun hh=>⟨h,rfl,hh⟩⟩
 simp only [List.cons.injEq,AV.v.injEq,Value.int.injEq,true_and,and_true] at e
 rw [e];exact hh
attribute [go_sem] ribD_post ribD_ex ribD_pre'
theorem isH_pick {x:Int} (h1:0≤x) (h2:x < 5∨x=0):isH (1 + x)=true:=by simp [isH];omega
/-- what a house told,and whatever range -/
def cDRD:Con:={ pre:=codeArg,post:=fun _ r=>∃ (b:Rb) (f c:Int),(b.all.length≤7∧lensG b.all)∧r = .tup [b.av,.agg [iv f,iv c]] }
theorem cDRD_own:cDRD.own=false:=rfl
theorem cDRD_draws:cDRD.draws=false:=rfl
theorem cDRD_cost:cDRD.cost=0:=rfl
attribute [go_sem] cDRD_own cDRD_draws cDRD_cost
theorem drd_post (args:List AV) (K:AV→Prop):(∀ r,cDRD.post args r→K r)=(∀ (b:Rb) (f c:Int),(b.all.length≤7∧lensG b.all)→K (.tup [b.av,.agg [iv f,iv c]])):=by
 apply propext
 exact ⟨fun h b f c h1=>h _ ⟨b,f,c,h1,rfl⟩,fun h r ⟨b,f,c,h1,e⟩=>e ▸ h b f c h1⟩
attribute [go_sem] drd_post
end Go.Proofs.W
end
section
namespace Go.Proofs.W
open Go Go.Eng Go.RowKit
set_option linter.unusedSimpArgs false
set_option maxRecDepth 100000
def eqσ (σ:List (Nat × AV)):List (Nat × AV)→Prop
 | []=>True
 | (d,y)::l=>lk d σ=y∧eqσ σ l
def eqm (m:List (Nat × List AV)):List (Nat × List AV)→Prop
 | []=>True
 | (d,y)::l=>lkm d m=some y∧eqm m l
attribute [go_sem] eqσ eqm
theorem eqσ_ok {σ:List (Nat × AV)}:∀ {σ':List (Nat × AV)},eqσ σ σ'→∀ x,lk x σ'=lk x σ∨lk x σ' = .junk
 | [],_,x=>.inr rfl
 | (d,y)::l,h,x=>by
  simp only [lk]
  split
  ·rename_i e;subst e;exact .inl h.1.symm
  ·exact eqσ_ok h.2 x
theorem eqm_ok {m:List (Nat × List AV)}:∀ {m':List (Nat × List AV)},eqm m m'→∀ k ls,lkm k m'=some ls→lkm k m=some ls
 | [],_,k,ls,h=>by simp [lkm] at h
 | (d,y)::l,h,k,ls,hl=>by
  simp only [lkm] at hl
  split at hl
  ·rename_i e;subst e
   obtain rfl:=Option.some.inj hl
   exact h.1
  ·exact eqm_ok h.2 k ls hl
theorem LeE_eq {E:En} {nt rn:Nat} {σ σ':List (Nat × AV)} {m m':List (Nat × List AV)} (hs:eqσ σ σ') (hm:eqm m m'):LeE E ⟨nt,σ,m,rn⟩ ⟨nt,σ',m',rn⟩:=fun a w r=>Le_of (eqσ_ok hs) (eqm_ok hm) E a w r
/-! the same of houses -/
def eqG1 (a b:Gt):Bool:=decide (a.old=b.old) && decide (a.r.f=b.r.f∧a.r.b=b.r.b∧a.r.path=b.r.path∧a.r.like=b.r.like∧a.r.marks=b.r.marks)
def eqGs:List Gt→List Gt→Bool
 | [],[]=>true
 | a::l,b::l'=>eqG1 a b && eqGs l l'
 | _,_=>false
theorem eqG1_refl (a:Gt):eqG1 a a=true:=by simp [eqG1]
theorem eqGs_refl:∀ l:List Gt,eqGs l l=true
 | []=>rfl
 | a::l=>by rw [eqGs,eqG1_refl,eqGs_refl l];rfl
theorem eqGs_len:∀ {l l':List Gt},l.length≠l'.length→eqGs l l'=false
 | [],[],h=>by simp at h
 | [],_::_,_=>rfl
 | _::_,[],_=>rfl
 | a::l,b::l',h=>by
  rw [eqGs,eqGs_len (l:=l) (l':=l') (by simpa using h),Bool.and_false]
theorem eqGs_drop {l l':List Gt} {i:Nat} (h:i < l.length) (h':i < l'.length):eqGs (l.drop i) (l'.drop i)=(eqG1 l[i] l'[i] && eqGs (l.drop (i + 1)) (l'.drop (i + 1))):=by
 rw [List.drop_eq_getElem_cons h,List.drop_eq_getElem_cons h',eqGs]
def gLyRib:List AV→Option (Prop × AV)
 | [.agg [.v (.int .i64 h),.v (.bool u),.sl _ e1],.agg [.v (.int .i64 h'),.v (.bool u'),.sl _ e2]]=>(match gotsL e1,gotsL e2 with
  | some l,some l'=>some ((l.length≤1000000∧lensG l)∧l'.length≤1000000∧lensG l',bv (decide (h=h') && (decide (u=u') && eqGs l l')))
  | _,_=>none)
 | _=>none
def dLyRib:DFn:={ g:=gLyRib }
attribute [go_sem] gLyRib dLyRib
set_option maxHeartbeats 4000000 in
theorem lyRib_ok:Fine Tryz.prog 14 dLyRib.con:=by
 refine fine_det (T:=TT) Tryz.func14 rfl Tryz.ntmps14 (by rw [Tryz.results14]) rfl rfl tt (gs_nil) (ds_cons lyRoute_ok ds_nil) ?_
 intro args c r h hc
 simp only [dLyRib,gLyRib] at h
 split at h
 rotate_left
 ·cases h
 split at h
 rotate_left
 ·cases h
 rename_i h1 u1 t1 e1 h2 u2 t2 e2 _ _ l l' hgo1 hgo2
 obtain rfl:=gotsL_eq hgo1
 obtain rfl:=gotsL_eq hgo2
 obtain ⟨rfl,rfl⟩:=Prod.mk.inj (Option.some.inj h)
 refine ⟨by simp,fun k E hE Q hQ=>?_⟩
 obtain ⟨⟨hl1,hg1⟩,hl2,hg2⟩:=hc
 refine Aw_st hE [2,3] [2,3] fun K hK=>?_
 simp only [go_sem,seval]
 refine hK _ ?_;clear hK K
 refine Aw_sq fun B1 hB1 hR1 hX1=>?_
 refine Aw_st hE [2,3,26] [2,3] fun K hK=>?_
 simp only [go_sem,seval]
 refine ⟨fun hg3=>?_,fun hg3=>?_⟩
 ·refine hK _ (Aw_yes rfl ?_)
  refine Aw_st hE [4] [] fun K hK=>?_
  simp only [go_sem,seval]
  refine hK _ (Aw_ret (hR1 _ (hQ _ ?_)))
  simp only [go_sem,seval]
  simp at hg3
  simp [hg3]
 refine ⟨fun hg4=>?_,fun hg4=>?_⟩
 ·refine hK _ (Aw_yes rfl ?_)
  refine Aw_st hE [4] [] fun K hK=>?_
  simp only [go_sem,seval]
  refine hK _ (Aw_ret (hR1 _ (hQ _ ?_)))
  simp only [go_sem,seval]
  simp at hg4
  simp [hg4]
 refine hK _ (Aw_cond rfl (fun hc5=>?_) (fun hc5=>?_))
 ·refine Aw_st hE [4] [] fun K hK=>?_
  simp only [go_sem,seval]
  refine hK _ (Aw_ret (hR1 _ (hQ _ ?_)))
  simp only [go_sem,seval]
  simp at hc5
  rw [eqGs_len (by omega)]
  simp
 have e1:h1=h2:=by simpa using hg3
 have e2:u1=u2:=by simpa using hg4
 have e3:l.length=l'.length:=by simp at hc5;omega
 subst e1 e2
 simp only [decide_true,Bool.true_and] at hQ
 refine Aw_skip (hB1 _ ?_)
 refine Aw_sq fun B6 hB6 hR6 hX6=>?_
 refine Aw_st hE [2,3,5] [2,3] fun K hK=>?_
 simp only [go_sem,seval]
 refine hK _ ?_;clear hK K
 refine Aw_bk fun B7 hN7 hE7 hR7 hX7=>?_
 refine Aw_lp (fun i:Nat=>⟨63,[(2,.loc 2 0),(3,.loc 3 0),(5,iv i)],[(2,[iv h1,bv u1,.sl t1 (grows l)]),(3,[iv h1,bv u1,.sl t2 (grows l')])],k⟩) (fun i=>i≤l.length∧eqGs l l'=eqGs (l.drop i) (l'.drop i)) (fun i=>l.length - i) 0 (Le.refl _) ⟨by omega,rfl⟩ fun i hi B8 hN8 hR8 hX8=>?_
 obtain ⟨hi1,hi2⟩:=hi
 refine Aw_sq fun B9 hB9 hR9 hX9=>?_
 refine Aw_st hE [2,3,5,31] [2,3] fun K hK=>?_
 simp only [go_sem,seval]
 refine hK _ (Aw_cond rfl (fun hc10=>?_) (fun hc10=>?_))
 ·simp only [decide_eq_true_eq] at hc10
  have hil:i < l.length:=by omega
  have hget:=grows_get l i hil
  have hget2:=grows_get l' i (by omega)
  have hln:=hg1 _ (List.getElem_mem hil)
  have hln2:=hg2 l'[i] (List.getElem_mem (by omega))
  have hst:=hi2.trans (eqGs_drop hil (by omega))
  generalize l[i]=g at hget hln hst
  generalize l'[i]=g' at hget2 hln2 hst
  obtain ⟨⟨rf,rb,p,rk,m⟩,old⟩:=g
  obtain ⟨⟨rf',rb',p',rk',m'⟩,old'⟩:=g'
  simp only at hln hln2
  refine Aw_skip (hB9 _ ?_)
  refine Aw_sq fun B11 hB11 hR11 hX11=>?_
  refine Aw_bk fun B12 hN12 hE12 hR12 hX12=>?_
  by_cases ho:old=old'
  rotate_left
  ·have hob:(old == old')=false:=by simpa using ho
   rw [show eqG1 ⟨⟨rf,rb,p,rk,m⟩,old⟩ ⟨⟨rf',rb',p',rk',m'⟩,old'⟩=false by simp [eqG1,ho],Bool.false_and] at hst
   refine Aw_se hE [0,2,6,8,1,3,4,5,7,9,10,11,12,13,14,15,16,17,18,19,20,21,22,23,24,25,26,27,28] [0,1,0,7,15,31,0,64,0,448,960,1984,4095,8191,16383,32767,16383,131071,262143,524287,16383,1064959,16383,7356415,15745023,32522239,67108863,134217727,268435455] [2,3,5,62] [2,3] (by kernel_rfl) fun K hK=>?_
   refine daopsE_cut 6 fun K1 hK1=>?_
   simp only [go_sem,seval,hget,hget2,hob,Bool.not_false,Bool.not_true]
   repeat refine ⟨by first|omega|(and_intros<;>first|omega|exact rows_row _|decide|(simp<;>omega))|fail,?_⟩
   refine hK1 _ ?_
   clear hK1
   refine daopsE_cut 6 fun K1 hK1=>?_
   simp only [go_sem,seval,hget,hget2,hob,Bool.not_false,Bool.not_true]
   repeat refine ⟨by first|omega|(and_intros<;>first|omega|exact rows_row _|decide|(simp<;>omega))|fail,?_⟩
   refine hK1 _ ?_
   clear hK1
   refine daopsE_cut 6 fun K1 hK1=>?_
   simp only [go_sem,seval,hget,hget2,hob,Bool.not_false,Bool.not_true]
   repeat refine ⟨by first|omega|(and_intros<;>first|omega|exact rows_row _|decide|(simp<;>omega))|fail,?_⟩
   refine hK1 _ ?_
   clear hK1
   refine daopsE_cut 6 fun K1 hK1=>?_
   simp only [go_sem,seval,hget,hget2,hob,Bool.not_false,Bool.not_true]
   repeat refine ⟨by first|omega|(and_intros<;>first|omega|exact rows_row _|decide|(simp<;>omega))|fail,?_⟩
   refine hK1 _ ?_
   clear hK1
   simp only [go_sem,seval,hget,hget2,hob,Bool.not_false,Bool.not_true]
   repeat refine ⟨by first|omega|(and_intros<;>first|omega|exact rows_row _|decide|(simp<;>omega))|fail,?_⟩
   refine hK _ (Aw_yes rfl ?_)
   refine Aw_st hE [4] [] fun K hK=>?_
   simp only [go_sem,seval]
   refine hK _ (Aw_ret (hR12 _ (hR11 _ (hR8 _ (hR7 _ (hR6 _ (hQ _ ?_)))))))
   simp only [go_sem,seval,hst]
  ·have hob:(old == old')=true:=by simpa using ho
   cases hq:decide (rf=rf'∧rb=rb'∧p=p'∧rk=rk'∧m=m') with
   | false =>
    rw [show eqG1 ⟨⟨rf,rb,p,rk,m⟩,old⟩ ⟨⟨rf',rb',p',rk',m'⟩,old'⟩=false by simp only [eqG1,hq,Bool.and_false],Bool.false_and] at hst
    refine Aw_se hE [0,2,6,8,1,3,4,5,7,9,10,11,12,13,14,15,16,17,18,19,20,21,22,23,24,25,26,27,28] [0,1,0,7,15,31,0,64,0,448,960,1984,4095,8191,16383,32767,16383,131071,262143,524287,16383,1064959,16383,7356415,15745023,32522239,67108863,134217727,268435455] [2,3,5,62] [2,3] (by kernel_rfl) fun K hK=>?_
    refine daopsE_cut 6 fun K1 hK1=>?_
    simp only [go_sem,seval,hget,hget2,hob,hq,Bool.not_false,Bool.not_true]
    repeat refine ⟨by first|omega|(and_intros<;>first|omega|exact rows_row _|decide|(simp<;>omega))|fail,?_⟩
    refine hK1 _ ?_
    clear hK1
    refine daopsE_cut 6 fun K1 hK1=>?_
    simp only [go_sem,seval,hget,hget2,hob,hq,Bool.not_false,Bool.not_true]
    repeat refine ⟨by first|omega|(and_intros<;>first|omega|exact rows_row _|decide|(simp<;>omega))|fail,?_⟩
    refine hK1 _ ?_
    clear hK1
    refine daopsE_cut 6 fun K1 hK1=>?_
    simp only [go_sem,seval,hget,hget2,hob,hq,Bool.not_false,Bool.not_true]
    repeat refine ⟨by first|omega|(and_intros<;>first|omega|exact rows_row _|decide|(simp<;>omega))|fail,?_⟩
    refine hK1 _ ?_
    clear hK1
    refine daopsE_cut 6 fun K1 hK1=>?_
    simp only [go_sem,seval,hget,hget2,hob,hq,Bool.not_false,Bool.not_true]
    repeat refine ⟨by first|omega|(and_intros<;>first|omega|exact rows_row _|decide|(simp<;>omega))|fail,?_⟩
    refine hK1 _ ?_
    clear hK1
    simp only [go_sem,seval,hget,hget2,hob,hq,Bool.not_false,Bool.not_true]
    repeat refine ⟨by first|omega|(and_intros<;>first|omega|exact rows_row _|decide|(simp<;>omega))|fail,?_⟩
    refine hK _ (Aw_yes rfl ?_)
    refine Aw_st hE [4] [] fun K hK=>?_
    simp only [go_sem,seval]
    refine hK _ (Aw_ret (hR12 _ (hR11 _ (hR8 _ (hR7 _ (hR6 _ (hQ _ ?_)))))))
    simp only [go_sem,seval,hst]
   | true =>
    rw [show eqG1 ⟨⟨rf,rb,p,rk,m⟩,old⟩ ⟨⟨rf',rb',p',rk',m'⟩,old'⟩=true by simp only [eqG1,hq,ho,decide_true,Bool.and_self],Bool.true_and] at hst
    refine Aw_se hE [0,2,6,8,1,3,4,5,7,9,10,11,12,13,14,15,16,17,18,19,20,21,22,23,24,25,26,27,28] [0,1,0,7,15,31,0,64,0,448,960,1984,4095,8191,16383,32767,16383,131071,262143,524287,16383,1064959,16383,7356415,15745023,32522239,67108863,134217727,268435455] [2,3,5,62] [2,3] (by kernel_rfl) fun K hK=>?_
    refine daopsE_cut 6 fun K1 hK1=>?_
    simp only [go_sem,seval,hget,hget2,hob,hq,Bool.not_false,Bool.not_true]
    repeat refine ⟨by first|omega|(and_intros<;>first|omega|exact rows_row _|decide|(simp<;>omega))|fail,?_⟩
    refine hK1 _ ?_
    clear hK1
    refine daopsE_cut 6 fun K1 hK1=>?_
    simp only [go_sem,seval,hget,hget2,hob,hq,Bool.not_false,Bool.not_true]
    repeat refine ⟨by first|omega|(and_intros<;>first|omega|exact rows_row _|decide|(simp<;>omega))|fail,?_⟩
    refine hK1 _ ?_
    clear hK1
    refine daopsE_cut 6 fun K1 hK1=>?_
    simp only [go_sem,seval,hget,hget2,hob,hq,Bool.not_false,Bool.not_true]
    repeat refine ⟨by first|omega|(and_intros<;>first|omega|exact rows_row _|decide|(simp<;>omega))|fail,?_⟩
    refine hK1 _ ?_
    clear hK1
    refine daopsE_cut 6 fun K1 hK1=>?_
    simp only [go_sem,seval,hget,hget2,hob,hq,Bool.not_false,Bool.not_true]
    repeat refine ⟨by first|omega|(and_intros<;>first|omega|exact rows_row _|decide|(simp<;>omega))|fail,?_⟩
    refine hK1 _ ?_
    clear hK1
    simp only [go_sem,seval,hget,hget2,hob,hq,Bool.not_false,Bool.not_true]
    repeat refine ⟨by first|omega|(and_intros<;>first|omega|exact rows_row _|decide|(simp<;>omega))|fail,?_⟩
    refine hK _ (Aw_no rfl (Aw_skip (hN12 _ (hB11 _ ?_))))
    refine Aw_tx hE [2,3,5] [2,3] fun K hK=>?_
    simp only [go_sem,seval]
    repeat refine ⟨by first|omega|(and_intros<;>first|omega|exact rows_row _|decide|(simp<;>omega))|fail,?_⟩
    refine hK _ (hN8 (i + 1) _ ⟨by omega,hst⟩ (by omega) (Le.refl _))
 ·simp only [decide_eq_false_iff_not] at hc10
  rw [List.drop_eq_nil_of_le (by omega),List.drop_eq_nil_of_le (by omega)] at hi2
  refine Aw_exit (hX9 _ _ (hX8 _ _ (hE7 _ (hB6 _ ?_))))
  refine Aw_st hE [4] [] fun K hK=>?_
  simp only [go_sem,seval]
  refine hK _ (Aw_ret (hQ _ ?_))
  simp only [go_sem,seval,hi2]
  rfl
/-- what a house told,and a flag -/
def cDRW:Con:={ pre:=codeArg,post:=fun _ r=>∃ (b:Rb) (g:Bool),(b.all.length≤7∧lensG b.all)∧r = .tup [b.av,bv g] }
theorem cDRW_own:cDRW.own=false:=rfl
theorem cDRW_draws:cDRW.draws=false:=rfl
theorem cDRW_cost:cDRW.cost=0:=rfl
attribute [go_sem] cDRW_own cDRW_draws cDRW_cost
theorem drw_pre (bs:List Nat) (h:∀ b ∈ bs,b < 256):cDRW.pre [.sl none (byteRows bs)]:=⟨bs,h,rfl⟩
theorem drw_post (args:List AV) (K:AV→Prop):(∀ r,cDRW.post args r→K r)=(∀ (b:Rb) (g:Bool),(b.all.length≤7∧lensG b.all)→K (.tup [b.av,bv g])):=by
 apply propext
 exact ⟨fun h b g h1=>h _ ⟨b,g,h1,rfl⟩,fun h r ⟨b,g,h1,e⟩=>e ▸ h b g h1⟩
def cDRE:Con:={ pre:=codeArg,post:=fun _ r=>∃ b:Rb,(b.all.length≤7∧lensG b.all)∧r=b.av }
theorem cDRE_own:cDRE.own=false:=rfl
theorem cDRE_draws:cDRE.draws=false:=rfl
theorem cDRE_cost:cDRE.cost=0:=rfl
attribute [go_sem] cDRE_own cDRE_draws cDRE_cost
theorem dre_post (args:List AV) (K:AV→Prop):(∀ r,cDRE.post args r→K r)=(∀ b:Rb,(b.all.length≤7∧lensG b.all)→K b.av):=by
 apply propext
 exact ⟨fun h b h1=>h _ ⟨b,h1,rfl⟩,fun h r ⟨b,h1,e⟩=>e ▸ h b h1⟩
attribute [go_sem] drw_post dre_post
theorem drawRibDown_ok:Fine Tryz.prog 29 cDRW:=by
 refine fine_draw (T:=TT) (C:=cDRW) Tryz.func29 rfl Tryz.ntmps29 (by rw [Tryz.results29]) rfl rfl tt rfl rfl (G:=[(33,cRibD),(34,cPick)]) (D:=[]) (gs_cons l92Rib_ok (gs_cons pick_ok gs_nil)) ds_nil (l1:=[_]) (l2:=[_]) rfl rfl rfl rfl (by decide) open_calls ⟨_,Tryz.func32,rfl,rfl⟩ ?_ ?_
 ·rintro args r ⟨b,g,_,rfl⟩;rfl
 rintro args ⟨bs,hbs,rfl⟩
 refine ⟨by simp,bs,hbs,fun n E hE J hJ=>?_⟩
 refine Aw_tx hE [0,2] [2] fun K hK=>?_
 simp only [go_sem,seval]
 refine hK _ ?_
 simp only [thenA]
 simp only [go_sem,seval]
 refine hJ _ rfl rfl fun E hE Q hQ=>?_
 simp only [go_sem,seval]
 refine Aw_st hE [2,3] [2] fun K hK=>?_
 simp only [go_sem,seval]
 intro x hx1 hx2
 refine ⟨⟨by omega,by omega⟩,isH_pick hx1 hx2,fun b hb y hy1 hy2=>?_⟩
 refine hK _ (Aw_ret (hQ _ ?_))
 simp only [go_sem,seval]
 exact ⟨b,_,hb,rfl⟩
end Go.Proofs.W
end
