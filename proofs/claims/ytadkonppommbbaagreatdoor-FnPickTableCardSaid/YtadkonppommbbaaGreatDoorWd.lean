/- YtadkonppommbbaaGreatDoorWd: part of the proof that laws hold, for every input that the row speaks of (no condition of ours). -/
import Derived.Test.YtadkonppommbbaaGreatDoorWa
import Derived.Test.YtadkonppommbbaaGreatDoorWb
import Derived.Test.YtadkonppommbbaaGreatDoorWc
import Derived.Test.YtadkonppommbbaaGreatDoorEd
import Derived.ProofKit
import Derived.OpenShut
import Derived.Below
import Derived.ChangeSame
import Derived.Deep.DeepHandedRow
import Derived.Deep.DeepWitnessRowRef
import Derived.Lib.LaidTab
import Derived.Stop.LaidErr
set_option linter.unusedVariables false
set_option linter.unusedSimpArgs false
section
namespace Go.Proofs.W
open Go Go.Eng Go.RowKit Go.WideShapes Go.ChangeShapes
set_option maxRecDepth 100000
def InBytes (W:World) (v:Value):Prop :=
 v = .slice none 0 0∨∃ b off len cap,∃ zs:List Int,v = .slice (some ⟨b,off,none⟩) len cap∧len≤cap∧len≤zs.length∧(∀ i,i < zs.length→W.cell? ⟨b,off + i,none⟩=some (.int .u8 (zs.getD i 0)))∧∀ n ∈ zs,0≤n∧n < 256
theorem inBytes_rdd {W:World} {v:Value} (h:InBytes W v) (S:Nat→Nat→Prop) (hS:∀ b o,(∃ x,W.cell? ⟨b,o,none⟩=some x∧x.oneCell'=true)→S b o):∃ bs:List Nat,(∀ b ∈ bs,b < 256)∧RdD W S (.sl (byteRows bs)) v:=by
 rcases h with rfl | ⟨b,off,len,cap,zs,rfl,h1,h2,h3,h4⟩
 ·exact ⟨[],by simp,.nil⟩
 ·have hz:∀ i,i < zs.length→0≤zs.getD i 0∧zs.getD i 0 < 256:=fun i hi=>by
   have:zs.getD i 0=zs[i]:=by simp [List.getD_eq_getElem?_getD,hi]
   rw [this];exact h4 _ (List.getElem_mem hi)
  refine ⟨(List.range len).map fun i=>(zs.getD i 0).toNat,?_,rdd_bytes h1 fun k hk=>?_⟩
  ·intro x hx
   simp only [List.mem_map,List.mem_range] at hx
   obtain ⟨i,hi,rfl⟩:=hx
   have:=hz i (by omega);omega
  ·have e:((zs.getD k 0).toNat:Int)=zs.getD k 0:=Int.toNat_of_nonneg (hz k (by omega)).1
   have hc:=h3 k (by omega)
   rw [← e] at hc
   exact ⟨hS _ _ ⟨_,hc,rfl⟩,hc⟩
theorem post_below {H:Type} {enc:TypeId × Value→H} {P:Program} {f:Func} {s:ChangeSpec} {apart fresh handsOn again:Bool} {W W':World} {args:Array Value} {v:Value} {ds gs:List (DataW H)} {before pa pv:List MemPlace}
  (hW:DataW.Whole enc P f.params.toList s.vars apart W args.toList ds gs before)
  (hres:∀ (b:Nat) (sp:Nat→Bool) (hd:Bool),DataW.TrodAll enc P W' b sp hd f.resultTypes.toList (v.resultList f.resultTypes.size) (s.fn H (ds++gs)).results [])
  (hargs:∀ sp:Nat→Bool,(∀ p ∈ before,sp p.block=true)→DataW.TrodAll enc P W' 0 sp true f.params.toList args.toList (s.fn H (ds++gs)).args pa)
  (hvars:∀ sp:Nat→Bool,(∀ p ∈ before,sp p.block=true)→DataW.TrodVars enc P W' sp s.vars (s.fn H (ds++gs)).vars pv)
  (hps:before=pa++pv) (hb:Below W.heap.size W W')
  (hok:∀ (j:Nat) (t:TypeId) (r:Value),f.resultTypes[j]? = some t→(v.resultList f.resultTypes.size)[j]? = some r→Value.okWide P W' .any 0 t r) :
  s.post enc P f apart fresh handsOn again W args v W':=by
 have hlt:∀ p ∈ before,p.block < W.heap.size:=fun p hp=>hW.lt p hp
 have hold:∀ p ∈ before,(fun b=>decide (b < W.heap.size)) p.block=true:=fun p hp=>by simpa using hlt p hp
 refine ⟨ds,gs,before,[],pa,pv,hW,hres _ _ _,hargs _ hold,hvars _ hold,World.keptBut_mono (fun p hp=>⟨hp,?_⟩) (hb.frame (· ∈ before)),fun _=>?_⟩
 ·rw [hps,List.mem_append] at hp
  exact Or.inr hp
 ·obtain ⟨_,_,_,_,_,hz,hn⟩:=hW
  refine ⟨hok,_,_,([]++pa)++pv,⟨[]++pa,pv,trodAll_append (hargs _ (fun _ _=>rfl)) (hres _ _ _),hvars _ (fun _ _=>rfl),rfl,?_,?_⟩,?_⟩
  ·intro b off hp
   have hin:MemPlace.cell b off ∈ before:=by rw [hps];simpa using hp
   rw [hb.frozen (hlt _ hin)]
   exact hz b off hin
  ·intro ha
   have:=hn ha
   rw [hps] at this
   simpa using this
  ·intro p hp _
   rw [hps]
   simpa using hp
theorem open_arg {H:Type} {enc:TypeId × Value→H} {W:World} {base:Nat} {v:Value} {d:DataW H} {p:List MemPlace} (hval:Value.okWide Tryz.prog W .any base 22 v) (h:DataW.Trod enc Tryz.prog W 0 (fun _=>true) true 22 v d p) :
  InBytes W v∧∀ W':World,Below W.heap.size W W'→∀ sp:Nat→Bool,(∀ x ∈ p,sp x.block=true)→DataW.Trod enc Tryz.prog W' 0 sp true 22 v d p:=by
 obtain ⟨a1,len,cap,rfl⟩:=okWide_slice Tryz.underlying22 hval
 have hspot:∀ a,a1=some a→a.spot=none:=fun a e=>by
  subst e
  simp only [Value.okWide,Tryz.underlying22,Cell.okWide,Cell.ok] at hval
  exact hval.2.2.2.1
 obtain ⟨fuel,hf⟩:=h
 rcases open_ints Tryz.underlying22 Tryz.underlying5 (by kernel_rfl) hf with ⟨hcs,hx⟩ | ⟨a,len',cap',zs,hcs,hba,hl,hm,hz,hx,hcell,hwz⟩
 ·simp [Value.cells] at hcs
  obtain ⟨rfl,rfl,rfl⟩:=hcs
  simp only [Prod.mk.injEq] at hx
  obtain ⟨rfl,rfl⟩:=hx
  refine ⟨.inl rfl,fun W' _ sp _=>⟨1,?_⟩⟩
  simp [DataW.trod,Tryz.underlying22,Value.cells]
 ·simp [Value.cells] at hcs
  obtain ⟨rfl,rfl,rfl⟩:=hcs
  simp only [Prod.mk.injEq] at hx
  obtain ⟨rfl,rfl⟩:=hx
  simp only [if_true] at hz
  obtain ⟨b,off,spot⟩:=a
  obtain rfl:spot=none:=hspot _ rfl
  have hcell':∀ i,i < zs.length→W.cell? ⟨b,off + i,none⟩=some (.int .u8 (zs.getD i 0)):=fun i hi=>by
   have:=hcell i hi
   rwa [add_none] at this
  refine ⟨.inr ⟨b,off,len,cap,zs,rfl,hl,by omega,hcell',fun n hn=>?_⟩,fun W' hB sp hsp=>⟨2,?_⟩⟩
  ·have:=bounds_u8 (hwz n hn)
   omega
  ·have hpos:0 < zs.length→sp b=true:=fun h0=>by
    have:=hsp (.cell b off) (by simp only [MemPlace.row,List.mem_map,List.mem_range];exact ⟨0,h0,rfl⟩)
    exact this
   refine shut_ints (a:=⟨b,off,none⟩) 0 Tryz.underlying22 Tryz.underlying5 (by kernel_rfl) hba hl hm ?_ (fun i hi=>?_) hwz
   ·by_cases h0:0 < zs.length
    ·rw [if_pos (hpos h0)];exact hz
    ·have:zs.length=0:=by omega
     split<;>omega
   ·rw [add_none]
    exact (hB.cell (p:=⟨b,off + i,none⟩) (World.block_lt_of_cell? W ⟨b,off + i,none⟩ (hcell' i hi))).trans (hcell' i hi)
theorem law_callsP {f:FuncId} {pb:Addr} (h:Fine Tryz.prog f (cLawP pb)) (W:World) (hI:WP pb W) (v:Value) (hv:InBytes W v):Calls Tryz.prog f #[v] W fun e w'=>e = .returned (.bool true)∧Below W.heap.size W w':=by
 let S:Nat→Nat→Prop:=fun b o=>∃ x,W.cell? ⟨b,o,none⟩=some x∧x.oneCell'=true
 obtain ⟨bs,hbs,hr⟩:=inBytes_rdd hv S (fun _ _ h=>h)
 let c:Gh:={ w:=W,S:=S,β:=fun _=>0,tv:=fun _ _=>.slice none 0 0,te:=fun _ _=>0,g:=0 }
 have hrd:∀ (j:Nat) (x:AV),[AV.sl none (byteRows bs)][j]? = some x→Rd c x ((#[v]:Array Value).getD j undef):=fun j x hx=>by
  match j,hx with
  | 0,hx=>obtain rfl:=Option.some.inj hx;exact .sl none _ v hr trivial
 refine (h.2 c [.sl none (byteRows bs)] #[v] .nilIface 0 0 rfl hrd (fun x hx=>by obtain rfl:=List.mem_singleton.1 hx;rfl) ⟨bs,hbs,rfl⟩ hI (fun b o ⟨x,hx,_⟩=>.inl ⟨x,hx⟩) (fun b o x ⟨y,hy,h1⟩ hx=>?_) (fun e=>by cases e)).mono ?_
 ·have hx':W.cell? ⟨b,o,none⟩=some x:=hx
  rw [hy] at hx';obtain rfl:=Option.some.inj hx';exact h1
 ·rintro e w' ⟨u,r,c',rfl,hp,O⟩
  obtain rfl:r=bv true:=hp
  have h1:=O.rd
  have e1:u = .bool true:=by generalize u=z at h1;cases h1;rfl
  have hg:=O.fr
  exact ⟨by rw [e1],hg.os,hg.tape,hg.output,hg.size,fun i hi=>hg.block i hi (by simp [cLawP])⟩
theorem var_below' {P:Program} {w w':World} {n:String} {g:Nat} {cs:Array Value} (h:w.var? P n=some cs) (hg:P.globalNamed n=some g) (hb:Below w.heap.size w w'):w'.var? P n=some cs:=by
 have hlt:g < w.heap.size:=by
  unfold World.var? at h
  rw [hg] at h
  simp only [Option.bind_some] at h
  rcases Nat.lt_or_ge g w.heap.size with h' | h'
  ·exact h'
  ·simp [Array.getElem?_eq_none h'] at h
 unfold World.var? at h ⊢
 rw [hg] at h ⊢
 simp only [Option.bind_some] at h ⊢
 rw [hb.block g hlt]
 exact h
end Go.Proofs.W
end
section
namespace Go.Proofs.W
open Go Go.Eng Go.RowKit
set_option maxRecDepth 100000
def Rb.row (b:Rb):List DV:=[.v (.int .i64 b.h),.v (.bool b.up),.sl (grows b.all)]
def brows (l:List Rb):List (List DV):=l.map Rb.row
def ribsL:List (List DV)→Option (List Rb)
 | []=>some []
 | [.v (.int .i64 h),.v (.bool up),.sl e]::l=>match gotsL e,ribsL l with
  | some a,some r=>some (⟨h,up,a⟩::r)
  | _,_=>none
 | _=>none
theorem brows_nil:brows []=[]:=rfl
theorem brows_cons (c:Rb) (l:List Rb):brows (c::l)=c.row::brows l:=rfl
theorem ribsL_rows (l:List Rb):ribsL (brows l)=some l:=by
 induction l with
 | nil=>rfl
 | cons n l ih=>simp only [brows_cons,Rb.row,ribsL,ih,gotsL_rows]
theorem ribsL_eq {els:List (List DV)}:∀ {l:List Rb},ribsL els=some l→els=brows l:=by
 induction els with
 | nil=>intro l h;obtain rfl:=Option.some.inj h;rfl
 | cons row els ih =>
  intro l h
  unfold ribsL at h
  split at h
  ·rename_i e;cases e
  ·rename_i l' e
   obtain ⟨rfl,rfl⟩:=List.cons.inj e
   split at h
   ·rename_i p r hp hr
    obtain rfl:=Option.some.inj h
    rw [ih hr,gotsL_eq hp];rfl
   ·cases h
  ·cases h
theorem brows_len (l:List Rb):(brows l).length=l.length:=by simp [brows]
theorem brows_get (l:List Rb) (i:Nat) (h:i < l.length):(brows l)[i]? = some (l[i]).row:=by simp [brows,h]
theorem brows_app (a b:List Rb):brows a++brows b=brows (a++b):=by simp [brows]
theorem brows_row (l:List Rb):∀ row ∈ brows l,row.length=3:=by simp [brows,Rb.row]
theorem brows_one (h:Int) (up:Bool) (l:List Gt):[[DV.v (.int .i64 h),.v (.bool up),.sl (grows l)]]=brows [⟨h,up,l⟩]:=rfl
attribute [go_sem] ribsL_rows brows_len brows_nil brows_app Rb.row
def prow (c:List Cl):List DV:=[.sl (crows c)]
def prows (l:List (List Cl)):List (List DV):=l.map prow
def polsL:List (List DV)→Option (List (List Cl))
 | []=>some []
 | [.sl e]::l=>match clsL e,polsL l with
  | some a,some r=>some (a::r)
  | _,_=>none
 | _=>none
theorem prows_nil:prows []=[]:=rfl
theorem prows_cons (c:List Cl) (l:List (List Cl)):prows (c::l)=prow c::prows l:=rfl
theorem polsL_rows (l:List (List Cl)):polsL (prows l)=some l:=by
 induction l with
 | nil=>rfl
 | cons n l ih=>simp only [prows_cons,prow,polsL,ih,clsL_rows]
theorem polsL_eq {els:List (List DV)}:∀ {l:List (List Cl)},polsL els=some l→els=prows l:=by
 induction els with
 | nil=>intro l h;obtain rfl:=Option.some.inj h;rfl
 | cons row els ih =>
  intro l h
  unfold polsL at h
  split at h
  ·rename_i e;cases e
  ·rename_i l' e
   obtain ⟨rfl,rfl⟩:=List.cons.inj e
   split at h
   ·rename_i p r hp hr
    obtain rfl:=Option.some.inj h
    rw [ih hr,clsL_eq hp];rfl
   ·cases h
  ·cases h
theorem prows_len (l:List (List Cl)):(prows l).length=l.length:=by simp [prows]
theorem prows_get (l:List (List Cl)) (i:Nat) (h:i < l.length):(prows l)[i]? = some (prow l[i]):=by simp [prows,h]
theorem prows_app (a b:List (List Cl)):prows a++prows b=prows (a++b):=by simp [prows]
theorem prows_row (l:List (List Cl)):∀ row ∈ prows l,row.length=1:=by simp [prows,prow]
theorem prows_one (c:List Cl):[[DV.sl (crows c)]]=prows [c]:=rfl
attribute [go_sem] polsL_rows prows_len prows_nil prows_app prow
def ascR (rs:List Rb) (k:Nat) (r:Rb):Bool:=match k with
 | 0=>true
 | j + 1=>match rs[j]? with
  | none=>true
  | some q=>decide (q.h < r.h)
def stepR (own:Int) (rs:List Rb) (k:Nat):Bool:=match rs[k]? with
 | none=>true
 | some r=>ribOk r && (!decide (r.h=own) && ascR rs k r)
theorem stepR_at {own:Int} {rs:List Rb} {k:Nat} {r:Rb} (h:rs[k]? = some r):stepR own rs k=(ribOk r && (!decide (r.h=own) && ascR rs k r)):=by
 unfold stepR;rw [h]
theorem ascR_s {rs:List Rb} {k:Nat} {q r:Rb} (hk:k≠0) (hq:rs[k - 1]? = some q):ascR rs k r=decide (q.h < r.h):=by
 obtain ⟨j,rfl⟩:∃ j,k=j + 1:=⟨k - 1,by omega⟩
 simp only [Nat.add_sub_cancel] at hq
 simp only [ascR,hq]
def rsN (own:Int) (rs:List Rb):Nat→Bool
 | 0=>true
 | n + 1=>rsN own rs n && stepR own rs n
theorem rsN_bad {own:Int} {rs:List Rb} {i:Nat} (h:stepR own rs i=false):∀ k,i < k→rsN own rs k=false
 | k + 1,hk=>by
  by_cases he:i=k
  ·subst he;rw [rsN,h,Bool.and_false]
  ·rw [rsN,rsN_bad h k (by omega)];rfl
def psN (ps:List (List Cl)):Nat→Bool
 | 0=>true
 | n + 1=>psN ps n && (match ps[n]? with | none=>true | some c=>polOk c)
theorem psN_bad {ps:List (List Cl)} {i:Nat} {c:List Cl} (h:ps[i]? = some c) (hc:polOk c=false):∀ k,i < k→psN ps k=false
 | k + 1,hk=>by
  by_cases he:i=k
  ·subst he;rw [psN,h];simp only [hc,Bool.and_false]
  ·rw [psN,psN_bad h hc k (by omega)];rfl
theorem psN_good {ps:List (List Cl)} {i:Nat} {c:List Cl} (h:ps[i]? = some c) (hc:polOk c=true) (hi:psN ps i=true):psN ps (i + 1)=true:=by
 rw [psN,h,hi,Bool.true_and];exact hc
def pkOk (own:Int) (rs:List Rb) (ps:List (List Cl)):Bool:=rsN own rs rs.length && (psN ps ps.length && (isH own && (decide (rs.length=ps.length) && decide (rs.length≤4))))
def lensR (rs:List Rb):Prop:=∀ r ∈ rs,r.all.length≤1000∧lensG r.all
def lensP (ps:List (List Cl)):Prop:=∀ c ∈ ps,c.length≤1000
def gPickOk:List AV→Option (Prop × AV)
 | [.v (.int .i64 own),.sl _ e1,.sl _ e2]=>(match ribsL e1,polsL e2 with
  | some rs,some ps=>some ((rs.length≤1000∧ps.length≤1000)∧lensR rs∧lensP ps,bv (pkOk own rs ps))
  | _,_=>none)
 | _=>none
def dPickOk:DFn:={ g:=gPickOk }
attribute [go_sem] gPickOk dPickOk
set_option maxHeartbeats 4000000 in
theorem sPickOk_ok:Fine Tryz.prog 21 dPickOk.con:=by
 refine fine_det (T:=TT) Tryz.func21 rfl Tryz.ntmps21 (by rw [Tryz.results21]) rfl rfl tt (gs_nil) (ds_cons sRibOk_ok (ds_cons sPolOk_ok (ds_cons sIsH_ok ds_nil))) ?_
 intro args c r h hc
 simp only [dPickOk,gPickOk] at h
 split at h
 rotate_left
 ·cases h
 split at h
 rotate_left
 ·cases h
 rename_i own t1 e1 t2 e2 _ _ rs ps hrb1 hpo1
 obtain rfl:=ribsL_eq hrb1
 obtain rfl:=polsL_eq hpo1
 obtain ⟨rfl,rfl⟩:=Prod.mk.inj (Option.some.inj h)
 refine ⟨by simp,fun k E hE Q hQ=>?_⟩
 obtain ⟨⟨hrl,hpl⟩,hlr,hlp⟩:=hc
 refine Aw_st hE [0,1,2] [] fun K hK=>?_
 simp only [go_sem,seval]
 refine hK _ ?_;clear hK K
 refine Aw_sq fun B1 hB1 hR1 hX1=>?_
 refine Aw_st hE [0,1,2,7] [] fun K hK=>?_
 simp only [go_sem,seval]
 refine hK _ ?_;clear hK K
 refine Aw_bk fun B2 hN2 hE2 hR2 hX2=>?_
 refine Aw_lp (fun i:Nat=>⟨74,[(0,iv own),(1,.sl t1 (brows rs)),(2,.sl t2 (prows ps)),(7,iv i)],[],k⟩) (fun i=>i≤rs.length∧rsN own rs i=true) (fun i=>rs.length - i) 0 (Le.refl _) ⟨by omega,rfl⟩ fun i hi B3 hN3 hR3 hX3=>?_
 obtain ⟨hi1,hi2⟩:=hi
 refine Aw_sq fun B4 hB4 hR4 hX4=>?_
 refine Aw_st hE [0,1,2,7,12] [] fun K hK=>?_
 simp only [go_sem,seval]
 refine hK _ (Aw_cond rfl (fun hc5=>?_) (fun hc5=>?_))
 ·simp only [dte] at hc5
  have hil:i < rs.length:=by omega
  have hget:=brows_get rs i hil
  have hlen:=hlr _ (List.getElem_mem hil)
  have hat:=List.getElem?_eq_getElem hil
  have hfail:=fun h=>rsN_bad (own:=own) (rs:=rs) (i:=i) h rs.length hil
  have hnx:rsN own rs (i + 1)=(rsN own rs i && stepR own rs i):=rfl
  generalize rs[i]=x at hget hlen hat
  obtain ⟨h0,up,l⟩:=x
  obtain ⟨hll,hlg⟩:=hlen
  simp only at hll hlg
  refine Aw_skip (hB4 _ ?_)
  refine Aw_sq fun B6 hB6 hR6 hX6=>?_
  refine Aw_bk fun B7 hN7 hE7 hR7 hX7=>?_
  have hst:=stepR_at (own:=own) hat
  cases h1:ribOk ⟨h0,up,l⟩ with
  | false =>
   have hf:=hfail (by rw [hst,h1,Bool.false_and])
   refine Aw_se hE [0,1,2,3,4,5,6,7,8,9,10,11,12,13,14,15,16,17,18,19,20,21,22,23,24,25,26,27,28,29,30,31,32] [0,0,3,7,15,31,63,127,127,511,1023,2047,127,8191,16383,32767,65535,131071,262143,524287,524287,1572863,4194303,8388607,16777215,524287,524287,101187583,235405311,503840767,1073741823,2147483647,4294967295] [0,1,2,7,47] [] (by kernel_rfl) fun K hK=>?_
   refine daopsE_cut 6 fun K1 hK1=>?_
   simp only [go_sem,seval,hget,h1,Bool.not_false]
   repeat refine sd0 ?_
   refine hK1 _ ?_
   clear hK1
   refine daopsE_cut 6 fun K1 hK1=>?_
   simp only [go_sem,seval,hget,h1,Bool.not_false]
   repeat refine sd0 ?_
   refine hK1 _ ?_
   clear hK1
   refine daopsE_cut 6 fun K1 hK1=>?_
   simp only [go_sem,seval,hget,h1,Bool.not_false]
   repeat refine sd0 ?_
   refine hK1 _ ?_
   clear hK1
   refine daopsE_cut 6 fun K1 hK1=>?_
   simp only [go_sem,seval,hget,h1,Bool.not_false]
   repeat refine sd0 ?_
   refine hK1 _ ?_
   clear hK1
   refine daopsE_cut 6 fun K1 hK1=>?_
   simp only [go_sem,seval,hget,h1,Bool.not_false]
   repeat refine sd0 ?_
   refine hK1 _ ?_
   clear hK1
   simp only [go_sem,seval,hget,h1,Bool.not_false]
   repeat refine sd0 ?_
   repeat (refine And.intro (by first | omega | assumption | (and_intros<;>first | omega | assumption | decide) | fail) ?_)
   refine hK _ (Aw_yes rfl ?_)
   refine Aw_st hE [6] [] fun K hK=>?_
   simp only [go_sem,seval]
   refine hK _ (Aw_ret (hR7 _ (hR6 _ (hR3 _ (hR2 _ (hR1 _ (hQ _ ?_)))))))
   simp only [go_sem,seval,pkOk,hf,Bool.false_and]
  | true =>
  by_cases h2:h0=own
  ·have h2d:decide (h0=own)=true:=decide_eq_true h2
   have hf:=hfail (by rw [hst,h1,h2d];rfl)
   refine Aw_se hE [0,1,2,3,4,5,6,7,8,9,10,11,12,13,14,15,16,17,18,19,20,21,22,23,24,25,26,27,28,29,30,31,32] [0,0,3,7,15,31,63,127,127,511,1023,2047,127,8191,16383,32767,65535,131071,262143,524287,524287,1572863,4194303,8388607,16777215,524287,524287,101187583,235405311,503840767,1073741823,2147483647,4294967295] [0,1,2,7,47] [] (by kernel_rfl) fun K hK=>?_
   refine daopsE_cut 6 fun K1 hK1=>?_
   simp only [go_sem,seval,hget,h1,h2d,Bool.not_true]
   repeat refine sd0 ?_
   refine hK1 _ ?_
   clear hK1
   refine daopsE_cut 6 fun K1 hK1=>?_
   simp only [go_sem,seval,hget,h1,h2d,Bool.not_true]
   repeat refine sd0 ?_
   refine hK1 _ ?_
   clear hK1
   refine daopsE_cut 6 fun K1 hK1=>?_
   simp only [go_sem,seval,hget,h1,h2d,Bool.not_true]
   repeat refine sd0 ?_
   refine hK1 _ ?_
   clear hK1
   refine daopsE_cut 6 fun K1 hK1=>?_
   simp only [go_sem,seval,hget,h1,h2d,Bool.not_true]
   repeat refine sd0 ?_
   refine hK1 _ ?_
   clear hK1
   refine daopsE_cut 6 fun K1 hK1=>?_
   simp only [go_sem,seval,hget,h1,h2d,Bool.not_true]
   repeat refine sd0 ?_
   refine hK1 _ ?_
   clear hK1
   simp only [go_sem,seval,hget,h1,h2d,Bool.not_true]
   repeat refine sd0 ?_
   repeat (refine And.intro (by first | omega | assumption | (and_intros<;>first | omega | assumption | decide) | fail) ?_)
   refine hK _ (Aw_yes rfl ?_)
   refine Aw_st hE [6] [] fun K hK=>?_
   simp only [go_sem,seval]
   refine hK _ (Aw_ret (hR7 _ (hR6 _ (hR3 _ (hR2 _ (hR1 _ (hQ _ ?_)))))))
   simp only [go_sem,seval,pkOk,hf,Bool.false_and]
  have h2d:decide (h0=own)=false:=decide_eq_false h2
  by_cases hi0:i=0
  ·have hz:decide ((0:Int) < (i:Int))=false:=decide_eq_false (by omega)
   have hn:rsN own rs (i + 1)=true:=by rw [hnx,hi2,hst,h1,h2d,hi0];rfl
   refine Aw_se hE [0,1,2,3,4,5,6,7,8,9,10,11,12,13,14,15,16,17,18,19,20,21,22,23,24,25,26,27,28,29,30,31,32] [0,0,3,7,15,31,63,127,127,511,1023,2047,127,8191,16383,32767,65535,131071,262143,524287,524287,1572863,4194303,8388607,16777215,524287,524287,101187583,235405311,503840767,1073741823,2147483647,4294967295] [0,1,2,7,47] [] (by kernel_rfl) fun K hK=>?_
   refine daopsE_cut 6 fun K1 hK1=>?_
   simp only [go_sem,seval,hget,h1,h2d,hz,Bool.not_true]
   repeat refine sd0 ?_
   refine hK1 _ ?_
   clear hK1
   refine daopsE_cut 6 fun K1 hK1=>?_
   simp only [go_sem,seval,hget,h1,h2d,hz,Bool.not_true]
   repeat refine sd0 ?_
   refine hK1 _ ?_
   clear hK1
   refine daopsE_cut 6 fun K1 hK1=>?_
   simp only [go_sem,seval,hget,h1,h2d,hz,Bool.not_true]
   repeat refine sd0 ?_
   refine hK1 _ ?_
   clear hK1
   refine daopsE_cut 6 fun K1 hK1=>?_
   simp only [go_sem,seval,hget,h1,h2d,hz,Bool.not_true]
   repeat refine sd0 ?_
   refine hK1 _ ?_
   clear hK1
   refine daopsE_cut 6 fun K1 hK1=>?_
   simp only [go_sem,seval,hget,h1,h2d,hz,Bool.not_true]
   repeat refine sd0 ?_
   refine hK1 _ ?_
   clear hK1
   simp only [go_sem,seval,hget,h1,h2d,hz,Bool.not_true]
   repeat refine sd0 ?_
   repeat (refine And.intro (by first | omega | assumption | (and_intros<;>first | omega | assumption | decide) | fail) ?_)
   refine hK _ (Aw_no rfl (Aw_skip (hN7 _ (hB6 _ ?_))))
   refine Aw_tx hE [0,1,2,7] [] fun K hK=>?_
   simp only [go_sem,seval]
   repeat refine sd0 ?_
   refine hK _ (hN3 (i + 1) _ ⟨by omega,hn⟩ (by omega) (Le.refl _))
  ·have hz:decide ((0:Int) < (i:Int))=true:=decide_eq_true (by omega)
   have et:((i:Int) - 1).toNat=i - 1:=by omega
   have hget2:=brows_get rs (i - 1) (by omega)
   have hasc:=ascR_s (r:=⟨h0,up,l⟩) hi0 (List.getElem?_eq_getElem (show i - 1 < rs.length by omega))
   generalize rs[i - 1]'(by omega)=q at hget2 hasc
   obtain ⟨qh,qu,ql⟩:=q
   simp only at hasc
   by_cases h3:h0≤qh
   ·have h3d:decide (h0≤qh)=true:=decide_eq_true h3
    have hf:=hfail (by rw [hst,hasc,decide_eq_false (show ¬ qh < h0 by omega)];simp)
    refine Aw_se hE [0,1,2,3,4,5,6,7,8,9,10,11,12,13,14,15,16,17,18,19,20,21,22,23,24,25,26,27,28,29,30,31,32] [0,0,3,7,15,31,63,127,127,511,1023,2047,127,8191,16383,32767,65535,131071,262143,524287,524287,1572863,4194303,8388607,16777215,524287,524287,101187583,235405311,503840767,1073741823,2147483647,4294967295] [0,1,2,7,47] [] (by kernel_rfl) fun K hK=>?_
    refine daopsE_cut 6 fun K1 hK1=>?_
    simp only [go_sem,seval,hget,et,hget2,h1,h2d,hz,h3d,Bool.not_true]
    repeat refine sd0 ?_
    refine hK1 _ ?_
    clear hK1
    refine daopsE_cut 6 fun K1 hK1=>?_
    simp only [go_sem,seval,hget,et,hget2,h1,h2d,hz,h3d,Bool.not_true]
    repeat refine sd0 ?_
    refine hK1 _ ?_
    clear hK1
    refine daopsE_cut 6 fun K1 hK1=>?_
    simp only [go_sem,seval,hget,et,hget2,h1,h2d,hz,h3d,Bool.not_true]
    repeat refine sd0 ?_
    refine hK1 _ ?_
    clear hK1
    refine daopsE_cut 6 fun K1 hK1=>?_
    simp only [go_sem,seval,hget,et,hget2,h1,h2d,hz,h3d,Bool.not_true]
    repeat refine sd0 ?_
    refine hK1 _ ?_
    clear hK1
    refine daopsE_cut 6 fun K1 hK1=>?_
    simp only [go_sem,seval,hget,et,hget2,h1,h2d,hz,h3d,Bool.not_true]
    repeat refine sd0 ?_
    refine hK1 _ ?_
    clear hK1
    simp only [go_sem,seval,hget,et,hget2,h1,h2d,hz,h3d,Bool.not_true]
    repeat refine sd0 ?_
    repeat (refine And.intro (by first | omega | assumption | (and_intros<;>first | omega | assumption | decide) | fail) ?_)
    refine hK _ (Aw_yes rfl ?_)
    refine Aw_st hE [6] [] fun K hK=>?_
    simp only [go_sem,seval]
    refine hK _ (Aw_ret (hR7 _ (hR6 _ (hR3 _ (hR2 _ (hR1 _ (hQ _ ?_)))))))
    simp only [go_sem,seval,pkOk,hf,Bool.false_and]
   ·have h3d:decide (h0≤qh)=false:=decide_eq_false h3
    have hn:rsN own rs (i + 1)=true:=by rw [hnx,hi2,hst,h1,h2d,hasc,decide_eq_true (show qh < h0 by omega)];rfl
    refine Aw_se hE [0,1,2,3,4,5,6,7,8,9,10,11,12,13,14,15,16,17,18,19,20,21,22,23,24,25,26,27,28,29,30,31,32] [0,0,3,7,15,31,63,127,127,511,1023,2047,127,8191,16383,32767,65535,131071,262143,524287,524287,1572863,4194303,8388607,16777215,524287,524287,101187583,235405311,503840767,1073741823,2147483647,4294967295] [0,1,2,7,47] [] (by kernel_rfl) fun K hK=>?_
    refine daopsE_cut 6 fun K1 hK1=>?_
    simp only [go_sem,seval,hget,et,hget2,h1,h2d,hz,h3d,Bool.not_true]
    repeat refine sd0 ?_
    refine hK1 _ ?_
    clear hK1
    refine daopsE_cut 6 fun K1 hK1=>?_
    simp only [go_sem,seval,hget,et,hget2,h1,h2d,hz,h3d,Bool.not_true]
    repeat refine sd0 ?_
    refine hK1 _ ?_
    clear hK1
    refine daopsE_cut 6 fun K1 hK1=>?_
    simp only [go_sem,seval,hget,et,hget2,h1,h2d,hz,h3d,Bool.not_true]
    repeat refine sd0 ?_
    refine hK1 _ ?_
    clear hK1
    refine daopsE_cut 6 fun K1 hK1=>?_
    simp only [go_sem,seval,hget,et,hget2,h1,h2d,hz,h3d,Bool.not_true]
    repeat refine sd0 ?_
    refine hK1 _ ?_
    clear hK1
    refine daopsE_cut 6 fun K1 hK1=>?_
    simp only [go_sem,seval,hget,et,hget2,h1,h2d,hz,h3d,Bool.not_true]
    repeat refine sd0 ?_
    refine hK1 _ ?_
    clear hK1
    simp only [go_sem,seval,hget,et,hget2,h1,h2d,hz,h3d,Bool.not_true]
    repeat refine sd0 ?_
    repeat (refine And.intro (by first | omega | assumption | (and_intros<;>first | omega | assumption | decide) | fail) ?_)
    refine hK _ (Aw_no rfl (Aw_skip (hN7 _ (hB6 _ ?_))))
    refine Aw_tx hE [0,1,2,7] [] fun K hK=>?_
    simp only [go_sem,seval]
    repeat refine sd0 ?_
    refine hK _ (hN3 (i + 1) _ ⟨by omega,hn⟩ (by omega) (Le.refl _))
 ·simp only [dfn] at hc5
  have hrs:rsN own rs rs.length=true:=by rw [← hi2];congr 1;omega
  refine Aw_exit (hX4 _ _ (hX3 _ _ (hE2 _ (hB1 _ ?_))))
  refine Aw_sq fun B13 hB13 hR13 hX13=>?_
  refine Aw_st hE [0,1,2,8] [] fun K hK=>?_
  simp only [go_sem,seval]
  refine hK _ ?_;clear hK K
  refine Aw_bk fun B14 hN14 hE14 hR14 hX14=>?_
  refine Aw_lp (fun i:Nat=>⟨74,[(0,iv own),(1,.sl t1 (brows rs)),(2,.sl t2 (prows ps)),(8,iv i)],[],k⟩) (fun i=>i≤ps.length∧psN ps i=true) (fun i=>ps.length - i) 0 (Le.refl _) ⟨by omega,rfl⟩ fun i hi B15 hN15 hR15 hX15=>?_
  obtain ⟨hi1,hi2⟩:=hi
  refine Aw_sq fun B16 hB16 hR16 hX16=>?_
  refine Aw_st hE [0,1,2,8,51] [] fun K hK=>?_
  simp only [go_sem,seval]
  refine hK _ (Aw_cond rfl (fun hc17=>?_) (fun hc17=>?_))
  ·simp only [dte] at hc17
   have hil:i < ps.length:=by omega
   have hget:=prows_get ps i hil
   have hlen:=hlp _ (List.getElem_mem hil)
   have hat:=List.getElem?_eq_getElem hil
   generalize ps[i]=x at hget hlen hat
   refine Aw_skip (hB16 _ ?_)
   refine Aw_sq fun B18 hB18 hR18 hX18=>?_
   refine Aw_bk fun B19 hN19 hE19 hR19 hX19=>?_
   refine Aw_st hE [0,1,2,8,59] [] fun K hK=>?_
   simp only [go_sem,seval,hget]
   repeat (refine And.intro (by first | omega | assumption | (and_intros<;>first | omega | assumption | decide) | fail) ?_)
   cases h1:polOk x with
   | false =>
    have hf:=psN_bad hat h1 ps.length hil
    refine hK _ (Aw_yes rfl ?_)
    refine Aw_st hE [6] [] fun K hK=>?_
    simp only [go_sem,seval]
    refine hK _ (Aw_ret (hR19 _ (hR18 _ (hR15 _ (hR14 _ (hR13 _ (hQ _ ?_)))))))
    simp only [go_sem,seval,pkOk,hf,Bool.false_and,Bool.and_false]
   | true =>
    have hn:=psN_good hat h1 hi2
    refine hK _ (Aw_no rfl (Aw_skip (hN19 _ (hB18 _ ?_))))
    refine Aw_tx hE [0,1,2,8] [] fun K hK=>?_
    simp only [go_sem,seval]
    repeat refine sd0 ?_
    refine hK _ (hN15 (i + 1) _ ⟨by omega,hn⟩ (by omega) (Le.refl _))
  ·simp only [dfn] at hc17
   have hps:psN ps ps.length=true:=by rw [← hi2];congr 1;omega
   refine Aw_exit (hX16 _ _ (hX15 _ _ (hE14 _ (hB13 _ ?_))))
   refine Aw_st hE [6] [] fun K hK=>?_
   simp only [go_sem,seval]
   refine ⟨fun hh=>⟨fun hn=>?_,fun hn=>?_⟩,fun hh=>?_⟩
   ·have hn':rs.length=ps.length:=by simp only [dte] at hn;omega
    have e:pkOk own rs ps=decide ((rs.length:Int)≤4):=by
     rw [pkOk,hrs,hps,hh,decide_eq_true hn'];simp only [Bool.true_and];exact decide_eq_decide.2 (by omega)
    refine hK _ (Aw_ret (hQ _ ?_))
    simp only [go_sem,seval,e]
   ·have hn':¬ rs.length=ps.length:=by simp only [dfn] at hn;omega
    have e:pkOk own rs ps=false:=by
     rw [pkOk,hrs,hps,hh,decide_eq_false hn'];rfl
    refine hK _ (Aw_ret (hQ _ ?_))
    simp only [go_sem,seval,e]
   ·have e:pkOk own rs ps=false:=by rw [pkOk,hrs,hps,hh];rfl
    refine hK _ (Aw_ret (hQ _ ?_))
    simp only [go_sem,seval,e]
theorem ribD_post (args:List AV) (K:AV→Prop):(∀ r,cRibD.post args r→K r)=(∀ b:Rb,(b.all.length≤7∧lensG b.all)→K b.av):=by
 apply propext
 exact ⟨fun h p hp=>h _ ⟨p,hp,rfl⟩,fun h r ⟨p,hp,e⟩=>e ▸ h p hp⟩
theorem ribD_ex (args:List AV):(∃ r,cRibD.post args r)=True:=eq_true ⟨_,⟨0,false,[]⟩,⟨by simp,by intro g hg;cases hg⟩,rfl⟩
theorem ribD_pre' (h:Int):cRibD.pre [.rd,iv h]=(isH h=true):=by
 apply propext
 refine ⟨fun ⟨h',e,hh⟩=>?_,fun hh=>⟨h,rfl,hh⟩⟩
 simp only [List.cons.injEq,AV.v.injEq,Value.int.injEq,true_and,and_true] at e
 rw [e];exact hh
attribute [go_sem] ribD_post ribD_ex ribD_pre'
theorem isH_pick {x:Int} (h1:0≤x) (h2:x < 5∨x=0):isH (1 + x)=true:=by simp [isH];omega
def cDRD:Con:={ pre:=codeArg,post:=fun _ r=>∃ (b:Rb) (f c:Int),(b.all.length≤7∧lensG b.all)∧r = .tup [b.av,.agg [iv f,iv c]] }
theorem cDRD_own:cDRD.own=false:=rfl
theorem cDRD_draws:cDRD.draws=false:=rfl
theorem cDRD_cost:cDRD.cost=0:=rfl
attribute [go_sem] cDRD_own cDRD_draws cDRD_cost
theorem drd_post (args:List AV) (K:AV→Prop):(∀ r,cDRD.post args r→K r)=(∀ (b:Rb) (f c:Int),(b.all.length≤7∧lensG b.all)→K (.tup [b.av,.agg [iv f,iv c]])):=by
 apply propext
 exact ⟨fun h b f c h1=>h _ ⟨b,f,c,h1,rfl⟩,fun h r ⟨b,f,c,h1,e⟩=>e ▸ h b f c h1⟩
attribute [go_sem] drd_post
def cPickD:Con:={ pre:=fun args=>args=[.rd],post:=fun _ r=>∃ (own:Int) (rs:List Rb) (ps:List (List Cl)),((rs.length≤6∧ps.length≤6)∧lensR rs∧lensP ps)∧r = .tup [iv own,.sl none (brows rs),.sl none (prows ps)],cost:=1600,draws:=true }
theorem cPickD_own:cPickD.own=false:=rfl
theorem cPickD_draws:cPickD.draws=true:=rfl
theorem cPickD_cost:cPickD.cost=1600:=rfl
attribute [go_sem] cPickD_own cPickD_draws cPickD_cost
theorem pickD_pre:cPickD.pre [.rd]=True:=by simp [cPickD]
theorem pickD_post (args:List AV) (K:AV→Prop):(∀ r,cPickD.post args r→K r)=(∀ (own:Int) (rs:List Rb) (ps:List (List Cl)),((rs.length≤6∧ps.length≤6)∧lensR rs∧lensP ps)→K (.tup [iv own,.sl none (brows rs),.sl none (prows ps)])):=by
 apply propext
 exact ⟨fun h a b c hp=>h _ ⟨a,b,c,hp,rfl⟩,fun h r ⟨a,b,c,hp,e⟩=>e ▸ h a b c hp⟩
theorem lensR_nil:lensR []:=by intro r hr;cases hr
theorem lensP_nil:lensP []:=by intro r hr;cases hr
theorem lensR_app {a:List Rb} {b:Rb} (h:lensR a) (h2:b.all.length≤7∧lensG b.all):lensR (a++[b]):=by
 intro r hr
 rcases List.mem_append.1 hr with h1 | h1
 ·exact h r h1
 ·obtain rfl:=List.mem_singleton.1 h1
  exact ⟨by omega,h2.2⟩
theorem lensP_app {a:List (List Cl)} {b:List Cl} (h:lensP a) (h2:b.length≤4):lensP (a++[b]):=by
 intro r hr
 rcases List.mem_append.1 hr with h1 | h1
 ·exact h r h1
 ·obtain rfl:=List.mem_singleton.1 h1
  omega
theorem pickD_ex (args:List AV):(∃ r,cPickD.post args r)=True:=eq_true ⟨_,0,[],[],⟨⟨by simp,by simp⟩,lensR_nil,lensP_nil⟩,rfl⟩
attribute [go_sem] pickD_pre pickD_post pickD_ex
set_option maxHeartbeats 4000000 in
theorem l92Pick_ok:Fine Tryz.prog 10 cPickD:=by
 refine fine_of (T:=TT) Tryz.func10 rfl Tryz.ntmps10 (by rw [Tryz.results10]) rfl rfl tt (gs_cons pick_ok (gs_cons l92Rib_ok (gs_cons l91Policy_ok gs_nil))) (ds_nil) ?_
 rintro args rfl
 refine ⟨by simp,fun k hk E hE Q hQ=>?_⟩
 have hk:=hk rfl
 simp only [go_sem] at hk
 refine Aw_st hE [0] [] fun K hK=>?_
 simp only [go_sem,seval]
 refine hK _ ?_;clear hK K
 refine Aw_st hE [0,5] [] fun K hK=>?_
 simp only [go_sem,seval]
 repeat' (first | (refine And.intro (by first | omega | decide) ?_) | intro)
 rename_i x hx1 hx2
 refine hK _ ?_;clear hK K
 refine Aw_st hE [0,5,6] [] fun K hK=>?_
 simp only [go_sem,seval]
 refine hK _ ?_;clear hK K
 refine Aw_st hE [0,5,6,7] [] fun K hK=>?_
 simp only [go_sem,seval]
 refine hK _ ?_;clear hK K
 refine Aw_sq fun B1 hB1 hR1 hX1=>?_
 refine Aw_st hE [0,5,6,7,8] [] fun K hK=>?_
 simp only [go_sem,seval]
 refine hK _ ?_;clear hK K
 refine Aw_bk fun B2 hN2 hE2 hR2 hX2=>?_
 refine Aw_lp (fun i:List Rb × List (List Cl) × Nat=>⟨52,[(0,.rd),(5,iv (1 + x)),(6,.sl (some (12,0,54)) (brows i.1)),(7,.sl (some (13,0,56)) (prows i.2.1)),(8,iv ((i.2.2:Int) + 1))],[],k + 1 + 301 * i.2.2⟩) (fun i=>(i.2.2≤5∧i.1.length≤i.2.2∧i.2.1.length≤i.2.2)∧lensR i.1∧lensP i.2.1) (fun i=>5 - i.2.2) ([],[],0) (Le.refl _) ⟨⟨by simp,by simp,by simp⟩,lensR_nil,lensP_nil⟩ fun i hi B3 hN3 hR3 hX3=>?_
 obtain ⟨rs,ps,j⟩:=i
 obtain ⟨⟨hj,hl1,hl2⟩,hlr,hlp⟩:=hi
 simp only at hj hl1 hl2 hlr hlp
 refine Aw_sq fun B4 hB4 hR4 hX4=>?_
 refine Aw_st hE [0,5,6,7,8,15] [] fun K hK=>?_
 simp only [go_sem,seval]
 refine hK _ (Aw_cond rfl (fun hc5=>?_) (fun hc5=>?_))
 ·simp only [dte] at hc5
  refine Aw_skip (hB4 _ ?_)
  refine Aw_sq fun B6 hB6 hR6 hX6=>?_
  refine Aw_bk fun B7 hN7 hE7 hR7 hX7=>?_
  have hih:isH ((j:Int) + 1)=true:=by rw [Int.add_comm];exact isH_pick (by omega) (.inl (by omega))
  refine Aw_st hE [0,5,6,7,8,25] [] fun K hK=>?_
  simp only [go_sem,seval]
  refine ⟨fun hg=>⟨by omega,fun y hy1 hy2=>?_⟩,fun hg=>?_⟩
  ·refine hK _ (Aw_cond rfl (fun hc10=>?_) (fun hc10=>?_))
   ·refine Aw_st hE [0,5,6,7,8] [] fun K hK=>?_
    simp only [go_sem,seval,brows_one]
    refine ⟨by omega,hih,fun b hb=>?_⟩
    refine ⟨⟨brows_row _,by omega⟩,?_⟩
    refine hK _ ?_;clear hK K
    refine Aw_tx hE [0,5,6,7,8] [] fun K hK=>?_
    simp only [go_sem,seval,prows_one]
    refine ⟨by omega,fun c hc=>?_⟩
    refine ⟨⟨prows_row _,by omega⟩,?_⟩
    refine hK _ (hN7 _ (hB6 _ ?_))
    refine Aw_tx hE [0,5,6,7,8] [] fun K hK=>?_
    simp only [go_sem,seval]
    repeat (refine And.intro (by first | omega | assumption | (and_intros<;>first | omega | assumption | decide) | fail) ?_)
    refine hK _ (hN3 (rs++[b],ps++[c],j + 1) _ ⟨⟨by simp only;omega,by simp;omega,by simp;omega⟩,lensR_app hlr hb,lensP_app hlp hc⟩ (by simp only;omega) ((Le_rn (rn':=k + 1 + 301 * (j + 1)) (by omega)).trans ((Le_tk 31 12 rfl).trans (Le_tk 36 13 rfl))))
   ·refine Aw_skip (hN7 _ (hB6 _ ?_))
    refine Aw_tx hE [0,5,6,7,8] [] fun K hK=>?_
    simp only [go_sem,seval]
    repeat (refine And.intro (by first | omega | assumption | (and_intros<;>first | omega | assumption | decide) | fail) ?_)
    refine hK _ (hN3 (rs,ps,j + 1) _ ⟨⟨by simp only;omega,by simp only;omega,by simp only;omega⟩,hlr,hlp⟩ (by simp only;omega) (Le_rn (by first | omega | (dsimp only;omega) | (simp only;omega) | (simp;omega))))
  ·refine hK _ (Aw_no rfl (Aw_skip (hN7 _ (hB6 _ ?_))))
   refine Aw_tx hE [0,5,6,7,8] [] fun K hK=>?_
   simp only [go_sem,seval]
   repeat (refine And.intro (by first | omega | assumption | (and_intros<;>first | omega | assumption | decide) | fail) ?_)
   refine hK _ (hN3 (rs,ps,j + 1) _ ⟨⟨by simp only;omega,by simp only;omega,by simp only;omega⟩,hlr,hlp⟩ (by simp only;omega) (Le_rn (by first | omega | (dsimp only;omega) | (simp only;omega) | (simp;omega))))
 ·simp only [dfn] at hc5
  refine Aw_exit (hX4 _ _ (hX3 _ _ (hE2 _ (hB1 _ ?_))))
  refine Aw_sq fun B11 hB11 hR11 hX11=>?_
  refine Aw_st hE [0,5,6,7,38] [] fun K hK=>?_
  simp only [go_sem,seval]
  refine ⟨by omega,fun y hy1 hy2=>?_⟩
  refine hK _ ?_;clear hK K
  refine Aw_bk fun B12 hN12 hE12 hR12 hX12=>?_
  refine Aw_st hE [0,5,6,7,38,39] [] fun K hK=>?_
  simp only [go_sem,seval]
  refine hK _ (Aw_cond rfl (fun hc13=>?_) (fun hc13=>?_))
  ·refine Aw_tx hE [5,6,7] [] fun K hK=>?_
   simp only [go_sem,seval]
   refine ⟨by omega,fun z hz1 hz2=>?_⟩
   refine hK _ (hN12 _ (hB11 _ ?_))
   refine Aw_st hE [2,3,4] [] fun K hK=>?_
   simp only [go_sem,seval]
   refine hK _ (Aw_ret (hQ _ ?_))
   simp only [go_sem,seval]
   exact ⟨by omega,_,_,_,⟨⟨by omega,by omega⟩,hlr,hlp⟩,rfl⟩
  ·refine Aw_st hE [5,6,7,43] [] fun K hK=>?_
   simp only [go_sem,seval]
   refine hK _ (Aw_cond rfl (fun hc14=>?_) (fun hc14=>?_))
   ·refine Aw_tx hE [5,6,7] [] fun K hK=>?_
    simp only [go_sem,seval]
    have hpn:[[DV.sl []]]=prows [[]]:=rfl
    simp only [go_sem,seval,hpn]
    refine ⟨⟨prows_row _,by omega⟩,?_⟩
    refine hK _ (hN12 _ (hB11 _ ?_))
    refine Aw_st hE [2,3,4] [] fun K hK=>?_
    simp only [go_sem,seval]
    refine hK _ (Aw_ret (hQ _ ?_))
    simp only [go_sem,seval]
    exact ⟨by omega,_,_,_,⟨⟨by omega,by simp;omega⟩,hlr,lensP_app hlp (by simp)⟩,rfl⟩
   ·refine Aw_skip (hN12 _ (hB11 _ ?_))
    refine Aw_st hE [2,3,4] [] fun K hK=>?_
    simp only [go_sem,seval]
    refine hK _ (Aw_ret (hQ _ ?_))
    simp only [go_sem,seval]
    exact ⟨by omega,_,_,_,⟨⟨by omega,by omega⟩,hlr,hlp⟩,rfl⟩
structure Et where
 f:Int
 b:Int
 v:Int
def Et.row (e:Et):List DV:=[.v (.int .i64 e.f),.v (.int .i64 e.b),.v (.int .i64 e.v)]
def erows (l:List Et):List (List DV):=l.map Et.row
def entsL:List (List DV)→Option (List Et)
 | []=>some []
 | [.v (.int .i64 f),.v (.int .i64 b),.v (.int .i64 v)]::l=>match entsL l with
  | some r=>some (⟨f,b,v⟩::r)
  | none=>none
 | _=>none
theorem entsL_rows:∀ l:List Et,entsL (erows l)=some l
 | []=>rfl
 | e::l=>by
  have:=entsL_rows l
  simp only [erows] at this
  simp only [erows,List.map_cons,Et.row,entsL,this]
theorem entsL_eq:∀ {e:List (List DV)} {l:List Et},entsL e=some l→e=erows l:=by
 intro e
 induction e with
 | nil=>intro l h;obtain rfl:=Option.some.inj h;rfl
 | cons x e ih =>
  intro l h
  unfold entsL at h
  split at h
  ·rename_i h0;cases h0
  ·rename_i f b v e' h0
   obtain ⟨rfl,rfl⟩:=List.cons.inj h0
   split at h
   ·rename_i r hr
    obtain rfl:=Option.some.inj h
    rw [ih hr];rfl
   ·cases h
  ·cases h
theorem erows_len (l:List Et):(erows l).length=l.length:=by simp [erows]
theorem erows_get (l:List Et) (i:Nat) (h:i < l.length):(erows l)[i]? = some [.v (.int .i64 l[i].f),.v (.int .i64 l[i].b),.v (.int .i64 l[i].v)]:=by simp [erows,h,Et.row]
theorem erows_app (a b:List Et):erows a++erows b=erows (a++b):=by simp [erows]
theorem erows_row (l:List Et):∀ row ∈ erows l,row.length=3:=by simp [erows,Et.row]
theorem erows_one (f b v:Int):[[DV.v (.int .i64 f),.v (.int .i64 b),.v (.int .i64 v)]]=erows [⟨f,b,v⟩]:=rfl
theorem erows_nil:erows []=[]:=rfl
attribute [go_sem] entsL_rows erows_len erows_app erows_nil
theorem erows_inj {l l':List Et} (h:erows l=erows l'):l=l':=by
 have h1:=congrArg entsL h
 rw [entsL_rows,entsL_rows] at h1
 exact Option.some.inj h1
def cL2P:Con:={ pre:=fun args=>∃ (l:List Et) (f b v:Int),args=[.sl none (erows l),.agg [iv f,iv b,iv v]]∧l.length≤100000,post:=fun args r=>∀ (l:List Et) (f b v:Int),args=[.sl none (erows l),.agg [iv f,iv b,iv v]]→∃ L:List Et,L.length≤l.length + 1∧r = .sl none (erows L) }
theorem cL2P_own:cL2P.own=false:=rfl
theorem cL2P_draws:cL2P.draws=false:=rfl
theorem cL2P_cost:cL2P.cost=0:=rfl
attribute [go_sem] cL2P_own cL2P_draws cL2P_cost
theorem l2P_pre (l:List Et) (f b v:Int):cL2P.pre [.sl none (erows l),.agg [iv f,iv b,iv v]]=(l.length≤100000):=by
 apply propext
 constructor
 ·rintro ⟨l',f',b',v',e,h⟩
  obtain rfl:=erows_inj (AV.sl.inj (List.cons.inj e).1).2
  exact h
 ·exact fun h=>⟨l,f,b,v,rfl,h⟩
theorem l2P_post (l:List Et) (f b v:Int) (K:AV→Prop):(∀ r,cL2P.post [.sl none (erows l),.agg [iv f,iv b,iv v]] r→K r)=(∀ L:List Et,L.length≤l.length + 1→K (.sl none (erows L))):=by
 apply propext
 refine ⟨fun h L hL=>h _ fun l' f' b' v' e=>?_,fun h r hp=>?_⟩
 ·obtain rfl:=erows_inj (AV.sl.inj (List.cons.inj e).1).2
  exact ⟨L,hL,rfl⟩
 ·obtain ⟨L,hL,rfl⟩:=hp l f b v rfl
  exact h L hL
theorem l2P_ex (l:List Et) (f b v:Int):(∃ r,cL2P.post [.sl none (erows l),.agg [iv f,iv b,iv v]] r)=True:=eq_true ⟨_,fun l' f' b' v' e=>⟨[],by simp,rfl⟩⟩
attribute [go_sem] l2P_pre l2P_post l2P_ex
def l2S (l:List Et) (f b v:Int) (k:Nat) (i:Nat) (o:List Et) (p:Bool):St:=⟨50,[(0,.sl none (erows l)),(3,.loc 3 0),(5,.sl (some (9,0,32)) (erows o)),(6,bv p),(7,iv i)],[(3,[iv f,iv b,iv v])],k⟩
def l2J (l:List Et) (f b v:Int) (k:Nat) (i:Nat) (c:Int) (o:List Et) (p:Bool):St:=⟨50,[(0,.sl none (erows l)),(3,.loc 3 0),(5,.sl (some (9,0,32)) (erows o)),(6,bv p),(7,iv i),(8,iv c)],[(3,[iv f,iv b,iv v])],k⟩
def oneB (p:Bool):Nat:=if p then 1 else 0
theorem l2Put_ok:Fine Tryz.prog 47 cL2P:=by
 refine fine_of (T:=TT) Tryz.func47 rfl Tryz.ntmps47 (by rw [Tryz.results47]) rfl rfl tt gs_nil (ds_cons l1Cmp_ok ds_nil) ?_
 rintro args ⟨l,f,b,v,rfl,hl⟩
 refine ⟨by simp,fun k hk E hE Q hQ=>?_⟩
 refine Aw_st hE [0,3] [3] fun K hK=>?_
 simp only [go_sem,seval]
 refine hK _ ?_;clear hK K
 refine Aw_st hE [0,3,5] [3] fun K hK=>?_
 simp only [go_sem,seval]
 refine hK _ ?_;clear hK K
 refine Aw_st hE [0,3,5,6] [3] fun K hK=>?_
 simp only [go_sem,seval]
 refine hK _ ?_;clear hK K
 refine Aw_sq fun B1 hB1 hR1 hX1=>?_
 refine Aw_st hE [0,3,5,6,7] [3] fun K hK=>?_
 simp only [go_sem,seval]
 refine hK _ ?_;clear hK K
 refine Aw_bk fun B2 hN2 hE2 hR2 hX2=>?_
 refine Aw_lp (fun i:Nat × List Et × Bool=>l2S l f b v k i.1 i.2.1 i.2.2) (fun i=>i.1≤l.length∧i.2.1.length≤i.1 + oneB i.2.2) (fun i=>l.length - i.1) (0,[],false) (Le.refl _) ⟨by simp,by simp⟩ fun i hi B3 hN3 hR3 hX3=>?_
 obtain ⟨i,o,p⟩:=i
 obtain ⟨hi,ho⟩:=hi
 simp only at hi ho
 have h1:oneB p≤1:=by cases p<;>simp [oneB]
 simp only [l2S]
 refine Aw_sq fun B4 hB4 hR4 hX4=>?_
 refine Aw_st hE [0,3,5,6,7,13] [3] fun K hK=>?_
 simp only [go_sem,seval]
 refine hK _ (Aw_cond rfl (fun hc5=>?_) (fun hc5=>?_))
 ·simp only [dte] at hc5
  have hil:i < l.length:=by omega
  have hg:=erows_get l i hil
  generalize l[i]=x at hg
  obtain ⟨xf,xb,xv⟩:=x
  refine Aw_skip (hB4 _ ?_)
  refine Aw_sq fun B6 hB6 hR6 hX6=>?_
  refine Aw_bk fun B7 hN7 hE7 hR7 hX7=>?_
  refine Aw_sd hE [0,3,5,6,7,8] [3] 6 (by kernel_rfl) fun K hK=>?_
  simp only [go_sem,seval,hg]
  repeat refine sd0 ?_
  refine hK _ ?_;clear hK K
  refine Aw_sqJ (fun q:List Et × Bool=>l2J l f b v k i (rCmp xf xb f b) q.1 q.2) (fun q=>q.1.length≤i + oneB q.2) (fun q hq=>?_) fun B8 hB8 hR8 hX8=>?_
  ·obtain ⟨o,p⟩:=q
   simp only at hq
   have h1:oneB p≤1:=by cases p<;>simp [oneB]
   simp only [l2J]
   refine Aw_st hE [0,3,5,6,7,35] [3] fun K hK=>?_
   simp only [go_sem,seval]
   refine hK _ (Aw_cond rfl (fun hc12=>?_) (fun hc12=>?_))
   ·refine Aw_tx hE [0,3,5,6,7] [3] fun K hK=>?_
    simp only [go_sem,seval,hg,erows_one]
    refine ⟨by omega,⟨erows_row _,by omega⟩,?_⟩
    refine hK _ (hN7 _ (hB6 _ ?_))
    refine Aw_tx hE [0,3,5,6,7] [3] fun K hK=>?_
    simp only [go_sem,seval]
    repeat refine sd0 ?_
    refine hK _ (hN3 (i + 1,o++[⟨xf,xb,xv⟩],p) _ ⟨by simp only;omega,by simp;omega⟩ (by simp only;omega) (Le_tk 42 9 rfl))
   ·refine Aw_skip (hN7 _ (hB6 _ ?_))
    refine Aw_tx hE [0,3,5,6,7] [3] fun K hK=>?_
    simp only [go_sem,seval]
    repeat refine sd0 ?_
    refine hK _ (hN3 (i + 1,o,p) _ ⟨by simp only;omega,by simp only;omega⟩ (by simp only;omega) (Le.refl _))
  ·cases p with
   | true =>
    refine Aw_st hE [0,3,5,6,7,8,29] [3] fun K hK=>?_
    simp only [go_sem,seval]
    repeat refine sd0 ?_
    refine hK _ (Aw_no rfl (Aw_skip (hB8 (o,true) _ ho (Le_E (Le_ks [0,3,5,6,7,8] [3])))))
   | false =>
    by_cases hcs:0≤rCmp xf xb f b
    ·have d1:decide (0≤rCmp xf xb f b)=true:=decide_eq_true hcs
     refine Aw_st hE [0,3,5,6,7,8,29] [3] fun K hK=>?_
     simp only [go_sem,seval,d1]
     repeat refine sd0 ?_
     refine hK _ (Aw_yes rfl ?_)
     refine Aw_st hE [0,3,5,7,8] [3] fun K hK=>?_
     simp only [go_sem,seval,erows_one]
     refine ⟨⟨erows_row _,by omega⟩,?_⟩
     refine hK _ ?_;clear hK K
     refine Aw_tx hE [0,3,5,6,7,8] [3] fun K hK=>?_
     simp only [go_sem,seval]
     refine hK _ (hB8 (o++[⟨f,b,v⟩],true) _ (by simp [oneB] at ho ⊢;omega) (Le_E (Le_tk 33 9 rfl)))
    ·have d1:decide (0≤rCmp xf xb f b)=false:=decide_eq_false hcs
     refine Aw_st hE [0,3,5,6,7,8,29] [3] fun K hK=>?_
     simp only [go_sem,seval,d1]
     repeat refine sd0 ?_
     refine hK _ (Aw_no rfl (Aw_skip (hB8 (o,false) _ ho (Le_E (Le_ks [0,3,5,6,7,8] [3])))))
 ·simp only [dfn] at hc5
  refine Aw_exit (hX4 _ _ (hX3 _ _ (hE2 _ (hB1 _ ?_))))
  refine Aw_sq fun B15 hB15 hR15 hX15=>?_
  cases p with
  | true =>
   refine Aw_st hE [3,5,44] [3] fun K hK=>?_
   simp only [go_sem,seval]
   refine hK _ (Aw_no rfl (Aw_skip (hB15 _ ?_)))
   refine Aw_st hE [4] [3] fun K hK=>?_
   simp only [go_sem,seval]
   refine hK _ (Aw_ret (hQ _ ?_))
   simp only [go_sem,seval]
   intro l' f' b' v' e
   obtain rfl:=erows_inj (AV.sl.inj (List.cons.inj e).1).2
   exact ⟨o,by simp [oneB] at ho;omega,rfl⟩
  | false =>
   refine Aw_st hE [3,5,44] [3] fun K hK=>?_
   simp only [go_sem,seval]
   refine hK _ (Aw_yes rfl ?_)
   refine Aw_tx hE [5] [3] fun K hK=>?_
   simp only [go_sem,seval,erows_one]
   refine ⟨⟨erows_row _,by omega⟩,?_⟩
   refine hK _ (hB15 _ ?_)
   refine Aw_st hE [4] [3] fun K hK=>?_
   simp only [go_sem,seval]
   refine hK _ (Aw_ret (hQ _ ?_))
   simp only [go_sem,seval]
   intro l' f' b' v' e
   obtain rfl:=erows_inj (AV.sl.inj (List.cons.inj e).1).2
   exact ⟨o++[⟨f,b,v⟩],by simp [oneB] at ho ⊢;omega,rfl⟩
def cL22R:Con:={ pre:=fun args=>∃ rs:List Rb,args=[.sl none (brows rs)]∧rs.length≤6∧∀ r ∈ rs,r.all.length≤1000,post:=fun _ r=>∃ L:List Et,L.length≤6000∧r = .sl none (erows L) }
theorem cL22R_own:cL22R.own=false:=rfl
theorem cL22R_draws:cL22R.draws=false:=rfl
theorem cL22R_cost:cL22R.cost=0:=rfl
attribute [go_sem] cL22R_own cL22R_draws cL22R_cost
theorem brows_inj {l l':List Rb} (h:brows l=brows l'):l=l':=by
 have h1:=congrArg ribsL h
 rw [ribsL_rows,ribsL_rows] at h1
 exact Option.some.inj h1
theorem l22R_pre (rs:List Rb):cL22R.pre [.sl none (brows rs)]=(rs.length≤6∧∀ r ∈ rs,r.all.length≤1000):=by
 apply propext
 constructor
 ·rintro ⟨l',e,h⟩
  obtain rfl:=brows_inj (AV.sl.inj (List.cons.inj e).1).2
  exact h
 ·exact fun h=>⟨rs,rfl,h⟩
theorem l22R_post (args:List AV) (K:AV→Prop):(∀ r,cL22R.post args r→K r)=(∀ L:List Et,L.length≤6000→K (.sl none (erows L))):=by
 apply propext
 exact ⟨fun h L hL=>h _ ⟨L,hL,rfl⟩,fun h r ⟨L,hL,e⟩=>e ▸ h L hL⟩
theorem l22R_ex (args:List AV):(∃ r,cL22R.post args r)=True:=eq_true ⟨_,[],by simp,rfl⟩
attribute [go_sem] l22R_pre l22R_post l22R_ex
theorem grow_get (l:List Gt) (i:Nat) (h:i < l.length):(grows l)[i]? = some [.v (.int .i64 l[i].r.f),.v (.int .i64 l[i].r.b),.sl (rows l[i].r.path),.v (.int .i64 l[i].r.like),.sl (rows l[i].r.marks),.v (.bool l[i].old)]:=grows_get l i h
theorem brow_get (l:List Rb) (i:Nat) (h:i < l.length):(brows l)[i]? = some [.v (.int .i64 l[i].h),.v (.bool l[i].up),.sl (grows l[i].all)]:=brows_get l i h
def r1S (rs:List Rb) (k:Nat) (i:Nat) (o:List Et):St:=⟨37,[(0,.sl none (brows rs)),(3,.sl none (erows o)),(4,iv i)],[],k⟩
def r2S (rs:List Rb) (k:Nat) (i j:Nat) (o:List Et):St:=⟨37,[(0,.sl none (brows rs)),(3,.sl none (erows o)),(4,iv i),(5,iv j)],[],k⟩
theorem l22Ranges_ok:Fine Tryz.prog 22 cL22R:=by
 refine fine_of (T:=TT) Tryz.func22 rfl Tryz.ntmps22 (by rw [Tryz.results22]) rfl rfl tt (gs_cons l2Put_ok gs_nil) ds_nil ?_
 rintro args ⟨rs,rfl,hl,ha⟩
 refine ⟨by simp,fun k hk E hE Q hQ=>?_⟩
 refine Aw_st hE [0] [] fun K hK=>?_
 simp only [go_sem,seval]
 refine hK _ ?_;clear hK K
 refine Aw_st hE [0,3] [] fun K hK=>?_
 simp only [go_sem,seval]
 refine hK _ ?_;clear hK K
 refine Aw_sq fun B1 hB1 hR1 hX1=>?_
 refine Aw_st hE [0,3,4] [] fun K hK=>?_
 simp only [go_sem,seval]
 refine hK _ ?_;clear hK K
 refine Aw_bk fun B2 hN2 hE2 hR2 hX2=>?_
 refine Aw_lp (fun i:Nat × List Et=>r1S rs k i.1 i.2) (fun i=>i.1≤rs.length∧i.2.length≤i.1 * 1000) (fun i=>rs.length - i.1) (0,[]) (Le_wk (by first | omega | (dsimp only;omega) | (simp only;omega) | (simp;omega)) (by simp only [go_sem,seval];all_goals rfl) (by simp only [go_sem,seval])) ⟨by simp,by simp⟩ fun i hi B3 hN3 hR3 hX3=>?_
 obtain ⟨i,o⟩:=i
 obtain ⟨hi,ho⟩:=hi
 simp only at hi ho
 simp only [r1S]
 refine Aw_sq fun B4 hB4 hR4 hX4=>?_
 refine Aw_st hE [0,3,4,10] [] fun K hK=>?_
 simp only [go_sem,seval]
 refine hK _ (Aw_cond rfl (fun hc5=>?_) (fun hc5=>?_))
 ·simp only [dte] at hc5
  have hil:i < rs.length:=by omega
  have hg:=brow_get rs i hil
  have hxl:=ha _ (List.getElem_mem hil)
  generalize rs[i]=x at hg hxl
  refine Aw_skip (hB4 _ ?_)
  refine Aw_sq fun B6 hB6 hR6 hX6=>?_
  refine Aw_bk fun B7 hN7 hE7 hR7 hX7=>?_
  refine Aw_st hE [0,3,4,5] [] fun K hK=>?_
  simp only [go_sem,seval]
  refine hK _ ?_;clear hK K
  refine Aw_bk fun B8 hN8 hE8 hR8 hX8=>?_
  refine Aw_lp (fun j:Nat × List Et=>r2S rs k i j.1 j.2) (fun j=>j.1≤x.all.length∧j.2.length≤i * 1000 + j.1) (fun j=>x.all.length - j.1) (0,o) (Le.refl _) ⟨by simp,by simpa using ho⟩ fun j hj B9 hN9 hR9 hX9=>?_
  obtain ⟨j,o⟩:=j
  obtain ⟨hj,ho⟩:=hj
  simp only at hj ho
  simp only [r2S]
  refine Aw_sq fun B10 hB10 hR10 hX10=>?_
  refine Aw_st hE [0,3,4,5,20] [] fun K hK=>?_
  simp only [go_sem,seval,hg]
  refine ⟨by omega,?_⟩
  refine hK _ (Aw_cond rfl (fun hc11=>?_) (fun hc11=>?_))
  ·simp only [dte] at hc11
   have hjl:j < x.all.length:=by omega
   have hgj:=grow_get x.all j hjl
   generalize x.all[j]=y at hgj
   refine Aw_skip (hB10 _ ?_)
   refine Aw_sq fun B12 hB12 hR12 hX12=>?_
   refine Aw_bk fun B13 hN13 hE13 hR13 hX13=>?_
   refine Aw_tx hE [0,3,4,5] [] fun K hK=>?_
   simp only [go_sem,seval,hg,hgj]
   refine ⟨by omega,by omega,by omega,fun L hL=>?_⟩
   refine hK _ (hN13 _ (hB12 _ ?_))
   refine Aw_tx hE [0,3,4,5] [] fun K hK=>?_
   simp only [go_sem,seval]
   repeat refine sd0 ?_
   refine hK _ (hN9 (j + 1,L) _ ⟨by simp only;omega,by simp only;omega⟩ (by simp only;omega) (Le.refl _))
  ·refine Aw_exit (hX10 _ _ (hX9 _ _ (hE8 _ (hN7 _ (hB6 _ ?_)))))
   simp only [dfn] at hc11
   refine Aw_tx hE [0,3,4] [] fun K hK=>?_
   simp only [go_sem,seval]
   repeat refine sd0 ?_
   refine hK _ (hN3 (i + 1,o) _ ⟨by simp only;omega,by simp only;omega⟩ (by simp only;omega) (Le.refl _))
 ·refine Aw_exit (hX4 _ _ (hX3 _ _ (hE2 _ (hB1 _ ?_))))
  refine Aw_st hE [2] [] fun K hK=>?_
  simp only [go_sem,seval]
  refine hK _ (Aw_ret (hQ _ ?_))
  simp only [go_sem,seval]
  exact ⟨o,by omega,rfl⟩
def lens1 (l:List Rt):Prop:=∀ r ∈ l,r.path.length≤1000∧r.marks.length≤1000
def cL4B:Con:={ pre:=fun args=>∃ l:List Rt,args=[.sl none (rrows l)]∧l.length≤100000∧lens1 l,post:=fun args r=>∀ l:List Rt,args=[.sl none (rrows l)]→∃ j:Int,(-1≤j∧j < l.length)∧r=iv j }
theorem cL4B_own:cL4B.own=false:=rfl
theorem cL4B_draws:cL4B.draws=false:=rfl
theorem cL4B_cost:cL4B.cost=0:=rfl
attribute [go_sem] cL4B_own cL4B_draws cL4B_cost
theorem rrows_inj {l l':List Rt} (h:rrows l=rrows l'):l=l':=by
 have h1:=congrArg rtsL h
 rw [rtsL_rows,rtsL_rows] at h1
 exact Option.some.inj h1
theorem l4B_pre (l:List Rt):cL4B.pre [.sl none (rrows l)]=(l.length≤100000∧lens1 l):=by
 apply propext
 constructor
 ·rintro ⟨l',e,h⟩
  obtain rfl:=rrows_inj (AV.sl.inj (List.cons.inj e).1).2
  exact h
 ·exact fun h=>⟨l,rfl,h⟩
theorem l4B_post (l:List Rt) (K:AV→Prop):(∀ r,cL4B.post [.sl none (rrows l)] r→K r)=(∀ j:Int,(-1≤j∧j < l.length)→K (iv j)):=by
 apply propext
 refine ⟨fun h j hj=>h _ fun l' e=>?_,fun h r hp=>?_⟩
 ·obtain rfl:=rrows_inj (AV.sl.inj (List.cons.inj e).1).2
  exact ⟨j,hj,rfl⟩
 ·obtain ⟨j,hj,rfl⟩:=hp l rfl
  exact h j hj
theorem l4B_ex (l:List Rt):(∃ r,cL4B.post [.sl none (rrows l)] r)=True:=eq_true ⟨_,fun l' e=>⟨-1,⟨by omega,by omega⟩,rfl⟩⟩
attribute [go_sem] l4B_pre l4B_post l4B_ex
theorem rrow_at (l:List Rt) (i:Nat) (h:i < l.length):(rrows l)[i]? = some [.v (.int .i64 l[i].f),.v (.int .i64 l[i].b),.sl (rows l[i].path),.v (.int .i64 l[i].like),.sl (rows l[i].marks)]:=rrows_get l i h
theorem l4Best_ok:Fine Tryz.prog 51 cL4B:=by
 refine fine_of (T:=TT) Tryz.func51 rfl Tryz.ntmps51 (by rw [Tryz.results51]) rfl rfl tt gs_nil (ds_cons l4Cmp_ok ds_nil) ?_
 rintro args ⟨l,rfl,hl,hs⟩
 refine ⟨by simp,fun k hk E hE Q hQ=>?_⟩
 refine Aw_st hE [0] [] fun K hK=>?_
 simp only [go_sem,seval]
 refine hK _ ?_;clear hK K
 refine Aw_st hE [0,3] [] fun K hK=>?_
 simp only [go_sem,seval]
 refine hK _ ?_;clear hK K
 refine Aw_sq fun B1 hB1 hR1 hX1=>?_
 refine Aw_st hE [0,3,4] [] fun K hK=>?_
 simp only [go_sem,seval]
 refine hK _ ?_;clear hK K
 refine Aw_bk fun B2 hN2 hE2 hR2 hX2=>?_
 refine Aw_lp (fun i:Nat × Int=>⟨27,[(0,.sl none (rrows l)),(3,iv i.2),(4,iv i.1)],[],k⟩) (fun i=>i.1≤l.length∧-1≤i.2∧i.2 < l.length) (fun i=>l.length - i.1) (0,-1) (Le.refl _) ⟨by simp,by simp,by simp only;omega⟩ fun i hi B3 hN3 hR3 hX3=>?_
 obtain ⟨i,j⟩:=i
 obtain ⟨hi,hj1,hj2⟩:=hi
 simp only at hi hj1 hj2
 refine Aw_sq fun B4 hB4 hR4 hX4=>?_
 refine Aw_st hE [0,3,4,8] [] fun K hK=>?_
 simp only [go_sem,seval]
 refine hK _ (Aw_cond rfl (fun hc5=>?_) (fun hc5=>?_))
 ·simp only [dte] at hc5
  have hil:i < l.length:=by omega
  have hg:=rrow_at l i hil
  obtain ⟨hp,hm⟩:=hs _ (List.getElem_mem hil)
  generalize l[i]=x at hg hp hm
  refine Aw_skip (hB4 _ ?_)
  refine Aw_sq fun B6 hB6 hR6 hX6=>?_
  refine Aw_bk fun B7 hN7 hE7 hR7 hX7=>?_
  by_cases hjn:j < 0
  ·have d1:decide (j < 0)=true:=decide_eq_true hjn
   refine Aw_sd hE [0,3,4,24] [] 6 (by kernel_rfl) fun K hK=>?_
   simp only [go_sem,seval,d1]
   repeat refine sd0 ?_
   refine hK _ (Aw_yes rfl ?_)
   refine Aw_tx hE [0,3,4] [] fun K hK=>?_
   simp only [go_sem,seval]
   refine hK _ (hN7 _ (hB6 _ ?_))
   refine Aw_tx hE [0,3,4] [] fun K hK=>?_
   simp only [go_sem,seval]
   repeat refine sd0 ?_
   refine hK _ (hN3 (i + 1,(i:Int)) _ ⟨by simp only;omega,by simp only;omega,by simp only;omega⟩ (by simp only;omega) (Le.refl _))
  ·obtain ⟨n,rfl⟩:∃ n:Nat,j=n:=⟨j.toNat,by omega⟩
   have hnl:n < l.length:=by omega
   have hgn:=rrow_at l n hnl
   obtain ⟨hp2,hm2⟩:=hs _ (List.getElem_mem hnl)
   generalize l[n]=y at hgn hp2 hm2
   have d1:decide ((n:Int) < 0)=false:=decide_eq_false hjn
   have hln:(x.path.length≤4294967296∧y.path.length≤4294967296)∧x.marks.length≤4294967296∧y.marks.length≤4294967296:=by omega
   refine Aw_sd hE [0,3,4,24] [] 6 (by kernel_rfl) fun K hK=>?_
   simp only [go_sem,seval,d1,hg,hgn]
   refine ⟨by omega,by omega,hln,?_⟩
   refine hK _ (Aw_cond rfl (fun hc8=>?_) (fun hc8=>?_))
   ·refine Aw_tx hE [0,3,4] [] fun K hK=>?_
    simp only [go_sem,seval]
    refine hK _ (hN7 _ (hB6 _ ?_))
    refine Aw_tx hE [0,3,4] [] fun K hK=>?_
    simp only [go_sem,seval]
    repeat refine sd0 ?_
    refine hK _ (hN3 (i + 1,(i:Int)) _ ⟨by simp only;omega,by simp only;omega,by simp only;omega⟩ (by simp only;omega) (Le.refl _))
   ·refine Aw_skip (hN7 _ (hB6 _ ?_))
    refine Aw_tx hE [0,3,4] [] fun K hK=>?_
    simp only [go_sem,seval]
    repeat refine sd0 ?_
    refine hK _ (hN3 (i + 1,(n:Int)) _ ⟨by simp only;omega,by simp only;omega,by simp only;omega⟩ (by simp only;omega) (Le.refl _))
 ·refine Aw_exit (hX4 _ _ (hX3 _ _ (hE2 _ (hB1 _ ?_))))
  refine Aw_st hE [2] [] fun K hK=>?_
  simp only [go_sem,seval]
  refine hK _ (Aw_ret (hQ _ ?_))
  simp only [go_sem,seval]
  intro l' e
  obtain rfl:=rrows_inj (AV.sl.inj (List.cons.inj e).1).2
  exact ⟨j,⟨hj1,hj2⟩,rfl⟩
def okRs (rs:List Rb):Prop:=∀ b ∈ rs,b.all.length≤1000∧∀ g ∈ b.all,okR g.r=true∧g.r.path.length≤1000∧g.r.marks.length≤900
def okPs (ps:List (List Cl)):Prop:=∀ c ∈ ps,(∀ x ∈ c,clOk x=true)∧c.length≤1000
def lens0 (x:Rt):Prop:=x.path.length≤1000∧x.marks.length≤1000
theorem mkL_lenM {m:List Int} (h:mOk m=true) (x:Int):(mkL m x).length≤m.length + 1:=mkL_len (mOk_srt h) x
theorem marksC_lenM {c:Cl} {m:List Int} (h:mOk m=true):(marksC c m).length≤m.length + 1:=by
 unfold marksC
 have h1:(if 0 < c.mark then mkL m c.mark else m).length≤m.length + 1:=by
  split
  ·exact mkL_lenM h _
  ·omega
 split
 ·have:=clL_len (if 0 < c.mark then mkL m c.mark else m) c.clear
  omega
 ·exact h1
theorem polDo_lens {l:List Cl} {r x:Rt} (hr:okR r=true) (h1:r.path.length≤1000) (h2:r.marks.length≤900) (h:polDo l r=some x):lens0 x:=by
 obtain ⟨c,_,_,_,rfl⟩:=polDo_some h
 have:=marksC_lenM (c:=c) (okR_parts hr).2.2.2.2
 exact ⟨h1,by show (marksC c r.marks).length≤1000;omega⟩
def cL22O:Con:={ pre:=fun args=>∃ (own:Int) (rs:List Rb) (ps:List (List Cl)) (f b:Int),args=[iv own,.sl none (brows rs),.sl none (prows ps),.agg [iv f,iv b]]∧(rs.length=ps.length∧rs.length≤6)∧okRs rs∧okPs ps,post:=fun _ r=>∃ (x:Rt) (o:Bool),lens0 x∧r = .tup [x.av,bv o] }
theorem cL22O_own:cL22O.own=false:=rfl
theorem cL22O_draws:cL22O.draws=false:=rfl
theorem cL22O_cost:cL22O.cost=0:=rfl
attribute [go_sem] cL22O_own cL22O_draws cL22O_cost
theorem prows_inj {l l':List (List Cl)} (h:prows l=prows l'):l=l':=by
 have h1:=congrArg polsL h
 rw [polsL_rows,polsL_rows] at h1
 exact Option.some.inj h1
theorem l22O_pre (own:Int) (rs:List Rb) (ps:List (List Cl)) (f b:Int):cL22O.pre [iv own,.sl none (brows rs),.sl none (prows ps),.agg [iv f,iv b]]=((rs.length=ps.length∧rs.length≤6)∧okRs rs∧okPs ps):=by
 apply propext
 constructor
 ·rintro ⟨o',rs',ps',f',b',e,h⟩
  obtain ⟨_,e2,e3,_⟩:_∧brows rs=brows rs'∧prows ps=prows ps'∧True:=by
   simp only [List.cons.injEq,AV.sl.injEq,true_and] at e
   exact ⟨e.1,e.2.1,e.2.2.1,trivial⟩
  obtain rfl:=brows_inj e2
  obtain rfl:=prows_inj e3
  exact h
 ·exact fun h=>⟨own,rs,ps,f,b,rfl,h⟩
theorem l22O_post (args:List AV) (K:AV→Prop):(∀ r,cL22O.post args r→K r)=(∀ (x:Rt) (o:Bool),lens0 x→K (.tup [x.av,bv o])):=by
 apply propext
 exact ⟨fun h x o hx=>h _ ⟨x,o,hx,rfl⟩,fun h r ⟨x,o,hx,e⟩=>e ▸ h x o hx⟩
theorem l22O_ex (args:List AV):(∃ r,cL22O.post args r)=True:=eq_true ⟨_,⟨0,0,[],0,[]⟩,false,⟨by simp,by simp⟩,rfl⟩
attribute [go_sem] l22O_pre l22O_post l22O_ex
theorem prow_get (l:List (List Cl)) (i:Nat) (h:i < l.length):(prows l)[i]? = some [.sl (crows l[i])]:=prows_get l i h
def loS (own:Int) (rs:List Rb) (ps:List (List Cl)) (f b:Int) (k:Nat) (i:Nat) (o:List Rt):St:=⟨76,[(0,iv own),(1,.sl none (brows rs)),(2,.sl none (prows ps)),(7,.loc 7 0),(8,.loc 8 0),(10,.sl (some (16,0,35)) (rrows o)),(11,iv i)],[(7,[iv f,iv b]),(8,[iv 0,iv 0,.nl,iv 0,.nl])],k⟩
set_option maxHeartbeats 4000000 in
theorem l22Of_ok:Fine Tryz.prog 23 cL22O:=by
 refine fine_of (T:=TT) Tryz.func23 rfl Tryz.ntmps23 (by rw [Tryz.results23]) rfl rfl tt (gs_cons l4Best_ok gs_nil) (ds_cons l21At_ok (ds_cons has3_ok (ds_cons l11Do_ok ds_nil))) ?_
 rintro args ⟨own,rs,ps,f,b,rfl,⟨hle,hl⟩,hrs,hps⟩
 refine ⟨by simp,fun k hk E hE Q hQ=>?_⟩
 refine Aw_st hE [0,1,2,7,8] [7,8,13] fun K hK=>?_
 simp only [go_sem,seval]
 refine hK _ ?_;clear hK K
 refine Aw_st hE [0,1,2,7,8,10] [7,8,13] fun K hK=>?_
 simp only [go_sem,seval]
 refine hK _ ?_;clear hK K
 refine Aw_sq fun B1 hB1 hR1 hX1=>?_
 refine Aw_st hE [0,1,2,7,8,10,11] [7,8,13] fun K hK=>?_
 simp only [go_sem,seval]
 refine hK _ ?_;clear hK K
 refine Aw_bk fun B2 hN2 hE2 hR2 hX2=>?_
 refine Aw_lp (fun i:Nat × List Rt=>loS own rs ps f b k i.1 i.2) (fun i=>i.1≤rs.length∧i.2.length≤i.1∧lens1 i.2) (fun i=>rs.length - i.1) (0,[]) (Le.refl _) ⟨by simp,by simp,fun r hr=>(by cases hr)⟩ fun i hi B3 hN3 hR3 hX3=>?_
 obtain ⟨i,o⟩:=i
 obtain ⟨hi,ho,hlo⟩:=hi
 simp only at hi ho hlo
 simp only [loS]
 refine Aw_sq fun B4 hB4 hR4 hX4=>?_
 refine Aw_st hE [0,1,2,7,8,10,11,20] [7,8,13] fun K hK=>?_
 simp only [go_sem,seval]
 refine hK _ (Aw_cond rfl (fun hc5=>?_) (fun hc5=>?_))
 ·simp only [dte] at hc5
  have hil:i < rs.length:=by omega
  have hip:i < ps.length:=by omega
  have hg:=brow_get rs i hil
  have hgp:=prow_get ps i hip
  obtain ⟨hxl,hxg⟩:=hrs _ (List.getElem_mem hil)
  obtain ⟨hcl,hcn⟩:=hps _ (List.getElem_mem hip)
  generalize rs[i]=x at hg hxl hxg
  generalize ps[i]=c at hgp hcl hcn
  obtain ⟨xh,xu,xa⟩:=x
  simp only at hg hxl hxg
  have hxl2:xa.length≤1000000:=by omega
  refine Aw_skip (hB4 _ ?_)
  refine Aw_sq fun B6 hB6 hR6 hX6=>?_
  refine Aw_bk fun B7 hN7 hE7 hR7 hX7=>?_
  refine Aw_sd hE [0,1,2,7,8,10,11,12] [7,8,13] 6 (by kernel_rfl) fun K hK=>?_
  simp only [go_sem,seval,hg]
  refine ⟨by omega,hxl2,?_⟩
  refine hK _ ?_;clear hK K
  refine Aw_sq fun B8 hB8 hR8 hX8=>?_
  by_cases hat:atG xa f b < 0
  ·have d1:decide (atG xa f b < 0)=true:=decide_eq_true hat
   refine Aw_st hE [0,1,2,7,8,10,11,12,44] [7,8,13] fun K hK=>?_
   simp only [go_sem,seval,d1]
   repeat refine sd0 ?_
   refine hK _ (Aw_yes rfl ?_)
   refine Aw_exit (hX8 _ _ (hE7 _ (hB6 _ ?_)))
   refine Aw_tx hE [0,1,2,7,8,10,11] [7,8,13] fun K hK=>?_
   simp only [go_sem,seval]
   repeat refine sd0 ?_
   refine hK _ (hN3 (i + 1,o) _ ⟨by simp only;omega,by simp only;omega,hlo⟩ (by simp only;omega) (Le.refl _))
  ·have d1:decide (atG xa f b < 0)=false:=decide_eq_false hat
   obtain ⟨j,hj,hjj⟩:=atG_ge (l:=xa) (f:=f) (b:=b) (by omega)
   have hgj:=grow_get xa j hj
   obtain ⟨hok,hpl,hml⟩:=hxg _ (List.getElem_mem hj)
   generalize xa[j]=y at hgj hok hpl hml
   rw [hjj] at d1 ⊢
   have hpl2:y.r.path.length≤4294967296:=by omega
   refine Aw_st hE [0,1,2,7,8,10,11,12,44] [7,8,13] fun K hK=>?_
   simp only [go_sem,seval,d1,hg,hgj]
   refine ⟨by omega,by omega,hpl2,?_⟩
   refine hK _ (Aw_cond rfl (fun hc11=>?_) (fun hc11=>?_))
   ·refine Aw_exit (hX8 _ _ (hE7 _ (hB6 _ ?_)))
    refine Aw_tx hE [0,1,2,7,8,10,11] [7,8,13] fun K hK=>?_
    simp only [go_sem,seval]
    repeat refine sd0 ?_
    refine hK _ (hN3 (i + 1,o) _ ⟨by simp only;omega,by simp only;omega,hlo⟩ (by simp only;omega) (Le.refl _))
   ·refine Aw_skip (hB8 _ ?_)
    have hpl3:y.r.path.length≤1000000∧y.r.marks.length≤1000:=by omega
    have hcn2:c.length≤1000000:=by omega
    cases hpd:polDo c y.r with
    | some z =>
     have hz:=polDo_lens hok hpl hml hpd
     have hpd':polDo c ⟨y.r.f,y.r.b,y.r.path,y.r.like,y.r.marks⟩=some z:=hpd
     refine Aw_se hE [0,1,4,5,9,2,3,6,7,8,10,11,12,13,14,15,16,17,18,19] [0,0,3,7,0,0,48,112,240,0,1008,2032,4080,8191,16383,32767,32767,0,196607,524287] [0,1,2,7,8,10,11,13,14] [7,8,13] (by kernel_rfl) fun K hK=>?_
     simp only [go_sem,seval,hg,hgj,hgp,hpd',resR]
     refine ⟨by omega,by omega,by omega,⟨⟨hcl,hok⟩,hcn2,hpl3⟩,?_⟩
     refine hK _ ?_;clear hK K
     refine Aw_st hE [0,1,2,7,8,10,11,13,62] [7,8,13] fun K hK=>?_
     simp only [go_sem,seval]
     refine hK _ (Aw_yes rfl ?_)
     refine Aw_tx hE [0,1,2,7,8,10,11] [7,8,13] fun K hK=>?_
     simp only [go_sem,seval,rrows_one]
     refine ⟨⟨rrows_row _,by omega⟩,?_⟩
     refine hK _ (hN7 _ (hB6 _ ?_))
     refine Aw_tx hE [0,1,2,7,8,10,11] [7,8,13] fun K hK=>?_
     simp only [go_sem,seval]
     repeat refine sd0 ?_
     refine hK _ (hN3 (i + 1,o++[z]) _ ⟨by simp only;omega,by simp;omega,fun r hr=>?_⟩ (by simp only;omega) ?_)
     ·rcases List.mem_append.1 hr with hr | hr
      ·exact hlo r hr
      ·obtain rfl:=List.mem_singleton.1 hr
       exact hz
     ·exact (Le_tk 66 16 rfl).trans (Le_ks [0,1,2,7,8,10,11] [7,8])
    | none =>
     have hpd':polDo c ⟨y.r.f,y.r.b,y.r.path,y.r.like,y.r.marks⟩=none:=hpd
     refine Aw_se hE [0,1,4,5,9,2,3,6,7,8,10,11,12,13,14,15,16,17,18,19] [0,0,3,7,0,0,48,112,240,0,1008,2032,4080,8191,16383,32767,32767,0,196607,524287] [0,1,2,7,8,10,11,13,14] [7,8,13] (by kernel_rfl) fun K hK=>?_
     simp only [go_sem,seval,hg,hgj,hgp,hpd',resR]
     refine ⟨by omega,by omega,by omega,⟨⟨hcl,hok⟩,hcn2,hpl3⟩,?_⟩
     refine hK _ ?_;clear hK K
     refine Aw_st hE [0,1,2,7,8,10,11,13,62] [7,8,13] fun K hK=>?_
     simp only [go_sem,seval]
     refine hK _ (Aw_no rfl ?_)
     refine Aw_skip (hN7 _ (hB6 _ ?_))
     refine Aw_tx hE [0,1,2,7,8,10,11] [7,8,13] fun K hK=>?_
     simp only [go_sem,seval]
     repeat refine sd0 ?_
     refine hK _ (hN3 (i + 1,o) _ ⟨by simp only;omega,by simp only;omega,hlo⟩ (by simp only;omega) (Le_ks [0,1,2,7,8,10,11] [7,8]))
 ·refine Aw_exit (hX4 _ _ (hX3 _ _ (hE2 _ (hB1 _ ?_))))
  refine Aw_st hE [8,10,15] [7,8,13] fun K hK=>?_
  simp only [go_sem,seval]
  refine ⟨⟨by omega,hlo⟩,fun j hj=>?_⟩
  refine hK _ ?_;clear hK K
  refine Aw_sq fun B13 hB13 hR13 hX13=>?_
  refine Aw_st hE [8,10,15,70] [7,8,13] fun K hK=>?_
  simp only [go_sem,seval]
  refine hK _ (Aw_cond rfl (fun hc14=>?_) (fun hc14=>?_))
  ·refine Aw_st hE [8,9] [7,8,13] fun K hK=>?_
   simp only [go_sem,seval]
   refine hK _ (Aw_ret (hR13 _ (hQ _ ?_)))
   simp only [go_sem,seval]
   exact ⟨⟨0,0,[],0,[]⟩,false,⟨by simp,by simp⟩,rfl⟩
  ·refine Aw_skip (hB13 _ ?_)
   simp only [dfn] at hc14
   obtain ⟨n,rfl⟩:∃ n:Nat,j=n:=⟨j.toNat,by omega⟩
   have hnl:n < o.length:=by omega
   have hgn:=rrow_at o n hnl
   have hln:=hlo _ (List.getElem_mem hnl)
   generalize o[n]=y at hgn hln
   refine Aw_st hE [8,9] [7,8,13] fun K hK=>?_
   simp only [go_sem,seval,hgn]
   refine ⟨by omega,?_⟩
   refine hK _ (Aw_ret (hQ _ ?_))
   simp only [go_sem,seval]
   exact ⟨y,true,hln,rfl⟩
def cPAll:Con:={ pre:=fun args=>∃ (own:Int) (rs:List Rb) (ps:List (List Cl)),args=[iv own,.sl none (brows rs),.sl none (prows ps)]∧(rs.length≤6∧ps.length≤6)∧lensR rs∧lensP ps,post:=fun _ r=>∃ L:List Rt,(L.length≤6000∧lens1 L)∧r = .sl (some (0,0,35)) (rrows L),own:=true }
theorem cPAll_own:cPAll.own=true:=rfl
theorem cPAll_draws:cPAll.draws=false:=rfl
theorem cPAll_cost:cPAll.cost=0:=rfl
attribute [go_sem] cPAll_own cPAll_draws cPAll_cost
theorem pAll_pre (own:Int) (rs:List Rb) (ps:List (List Cl)):cPAll.pre [iv own,.sl none (brows rs),.sl none (prows ps)]=((rs.length≤6∧ps.length≤6)∧lensR rs∧lensP ps):=by
 apply propext
 constructor
 ·rintro ⟨o',rs',ps',e,h⟩
  obtain ⟨_,e2,e3⟩:_∧brows rs=brows rs'∧prows ps=prows ps':=by
   simp only [List.cons.injEq,AV.sl.injEq,true_and,and_true] at e
   exact ⟨e.1,e.2.1,e.2.2⟩
  obtain rfl:=brows_inj e2
  obtain rfl:=prows_inj e3
  exact h
 ·exact fun h=>⟨own,rs,ps,rfl,h⟩
theorem pAll_post (args:List AV) (K:AV→Prop):(∀ r,cPAll.post args r→K r)=(∀ L:List Rt,(L.length≤6000∧lens1 L)→K (.sl (some (0,0,35)) (rrows L))):=by
 apply propext
 exact ⟨fun h L hL=>h _ ⟨L,hL,rfl⟩,fun h r ⟨L,hL,e⟩=>e ▸ h L hL⟩
theorem pAll_ex (args:List AV):(∃ r,cPAll.post args r)=True:=eq_true ⟨_,[],⟨by simp,fun r hr=>(by cases hr)⟩,rfl⟩
attribute [go_sem] pAll_pre pAll_post pAll_ex
theorem psN_all {ps:List (List Cl)}:∀ {n:Nat},psN ps n=true→∀ i (h:i < ps.length),i < n→polOk ps[i]=true
 | n + 1,h,i,hi,hin=>by
  by_cases e:i=n
  ·subst e
   by_cases hb:polOk ps[i]=true
   ·exact hb
   ·have:=psN_bad (List.getElem?_eq_getElem hi) (by simpa using hb) (i + 1) (by omega)
    rw [h] at this;cases this
  ·have h1:psN ps n=true:=by
    by_cases hb:psN ps n=true
    ·exact hb
    ·rw [psN] at h
     simp [hb] at h
   exact psN_all h1 i hi (by omega)
theorem pk_parts {own:Int} {rs:List Rb} {ps:List (List Cl)} (h:pkOk own rs ps=true) (hr:lensR rs) (hp:lensP ps):(rs.length=ps.length∧rs.length≤6)∧okRs rs∧okPs ps:=by
 unfold pkOk at h
 simp only [Bool.and_eq_true,dte] at h
 obtain ⟨h1,h2,h3,h4,h5⟩:=h
 refine ⟨⟨h4,by omega⟩,fun b hb=>⟨(hr b hb).1,fun g hg=>?_⟩,fun c hc=>⟨?_,hp c hc⟩⟩
 ·obtain ⟨i,hi,rfl⟩:=List.getElem_of_mem hb
  have hrk:ribOk rs[i]=true:=by
   by_cases hz:ribOk rs[i]=true
   ·exact hz
   ·have hst:stepR own rs i=false:=by rw [stepR_at (List.getElem?_eq_getElem hi)];simp [hz]
    have:=rsN_bad hst rs.length hi
    rw [h1] at this;cases this
  obtain ⟨_,_,hgs,_⟩:=ribOk_iff.1 (show ribOk ⟨rs[i].h,rs[i].up,rs[i].all⟩=true from hrk)
  have hbg:=hgs g hg
  simp only [bG,Bool.and_eq_true] at hbg
  exact ⟨hbg.1,(hr _ hb).2 g hg⟩
 ·obtain ⟨i,hi,rfl⟩:=List.getElem_of_mem hc
  have:=psN_all h2 i hi hi
  simp only [polOk,Bool.and_eq_true,List.all_eq_true] at this
  exact this.2
def paS (own:Int) (rs:List Rb) (ps:List (List Cl)) (L:List Et) (k:Nat) (i:Nat) (o:List Rt):St:=⟨45,[(0,iv own),(1,.sl none (brows rs)),(2,.sl none (prows ps)),(7,.sl (some (12,0,35)) (rrows o)),(8,.sl none (erows L)),(9,iv i)],[],k⟩
set_option maxHeartbeats 4000000 in
theorem pickAll_ok:Fine Tryz.prog 11 cPAll:=by
 refine fine_of (T:=TT) Tryz.func11 rfl Tryz.ntmps11 (by rw [Tryz.results11]) rfl rfl tt (gs_cons l22Ranges_ok (gs_cons l22Of_ok gs_nil)) (ds_cons sPickOk_ok ds_nil) ?_
 rintro args ⟨own,rs,ps,rfl,⟨hrl,hpl⟩,hlr,hlp⟩
 refine ⟨by simp,fun k hk E hE Q hQ=>?_⟩
 refine Aw_st hE [0,1,2] [10] fun K hK=>?_
 simp only [go_sem,seval]
 refine hK _ ?_;clear hK K
 refine Aw_st hE [0,1,2,7] [10] fun K hK=>?_
 simp only [go_sem,seval]
 refine hK _ ?_;clear hK K
 refine Aw_sq fun B1 hB1 hR1 hX1=>?_
 cases hok:pkOk own rs ps with
 | false =>
  refine Aw_st hE [0,1,2,7,17] [10] fun K hK=>?_
  simp only [go_sem,seval,hok]
  refine ⟨⟨⟨by omega,by omega⟩,hlr,hlp⟩,?_⟩
  refine hK _ (Aw_yes rfl ?_)
  refine Aw_st hE [6] [10] fun K hK=>?_
  simp only [go_sem,seval]
  refine hK _ (Aw_ret (hR1 _ (hQ _ ?_)))
  simp only [go_sem,seval]
  exact ⟨[],⟨by simp,fun r hr=>(by cases hr)⟩,rfl⟩
 | true =>
 obtain ⟨hp1,hp2,hp3⟩:=pk_parts hok hlr hlp
 refine Aw_st hE [0,1,2,7,17] [10] fun K hK=>?_
 simp only [go_sem,seval,hok]
 refine ⟨⟨⟨by omega,by omega⟩,hlr,hlp⟩,?_⟩
 refine hK _ (Aw_no rfl (Aw_skip (hB1 _ ?_)))
 refine Aw_st hE [0,1,2,7,8] [10] fun K hK=>?_
 simp only [go_sem,seval]
 refine ⟨⟨by omega,fun r hr=>(hlr r hr).1⟩,fun L hL=>?_⟩
 refine hK _ ?_;clear hK K
 refine Aw_sq fun B3 hB3 hR3 hX3=>?_
 refine Aw_st hE [0,1,2,7,8,9] [10] fun K hK=>?_
 simp only [go_sem,seval]
 refine hK _ ?_;clear hK K
 refine Aw_bk fun B4 hN4 hE4 hR4 hX4=>?_
 refine Aw_lp (fun i:Nat × List Rt=>paS own rs ps L k i.1 i.2) (fun i=>i.1≤L.length∧i.2.length≤i.1∧lens1 i.2) (fun i=>L.length - i.1) (0,[]) (Le.refl _) ⟨by simp,by simp,fun r hr=>(by cases hr)⟩ fun i hi B5 hN5 hR5 hX5=>?_
 obtain ⟨i,o⟩:=i
 obtain ⟨hi,ho,hlo⟩:=hi
 simp only at hi ho hlo
 simp only [paS]
 refine Aw_sq fun B6 hB6 hR6 hX6=>?_
 refine Aw_st hE [0,1,2,7,8,9,24] [10] fun K hK=>?_
 simp only [go_sem,seval]
 refine hK _ (Aw_cond rfl (fun hc7=>?_) (fun hc7=>?_))
 ·simp only [dte] at hc7
  have hil:i < L.length:=by omega
  have hg:=erows_get L i hil
  generalize L[i]=e at hg
  refine Aw_skip (hB6 _ ?_)
  refine Aw_sq fun B8 hB8 hR8 hX8=>?_
  refine Aw_bk fun B9 hN9 hE9 hR9 hX9=>?_
  refine Aw_st hE [0,1,2,7,8,9,10,11] [10] fun K hK=>?_
  simp only [go_sem,seval,hg]
  refine ⟨by omega,⟨hp1,hp2,hp3⟩,fun x ob hx=>?_⟩
  refine hK _ ?_;clear hK K
  refine Aw_st hE [0,1,2,7,8,9,10,39] [10] fun K hK=>?_
  simp only [go_sem,seval]
  refine hK _ (Aw_cond rfl (fun hc10=>?_) (fun hc10=>?_))
  ·refine Aw_tx hE [0,1,2,7,8,9] [10] fun K hK=>?_
   simp only [go_sem,seval,rrows_one]
   refine ⟨⟨rrows_row _,by omega⟩,?_⟩
   refine hK _ (hN9 _ (hB8 _ ?_))
   refine Aw_tx hE [0,1,2,7,8,9] [10] fun K hK=>?_
   simp only [go_sem,seval]
   repeat refine sd0 ?_
   refine hK _ (hN5 (i + 1,o++[x]) _ ⟨by simp only;omega,by simp;omega,fun r hr=>?_⟩ (by simp only;omega) ?_)
   ·rcases List.mem_append.1 hr with hr | hr
    ·exact hlo r hr
    ·obtain rfl:=List.mem_singleton.1 hr
     exact hx
   ·exact (Le_tk 43 12 rfl).trans (Le_ks [0,1,2,7,8,9] [])
  ·refine Aw_skip (hN9 _ (hB8 _ ?_))
   refine Aw_tx hE [0,1,2,7,8,9] [10] fun K hK=>?_
   simp only [go_sem,seval]
   repeat refine sd0 ?_
   refine hK _ (hN5 (i + 1,o) _ ⟨by simp only;omega,by simp only;omega,hlo⟩ (by simp only;omega) (Le_ks [0,1,2,7,8,9] []))
 ·refine Aw_exit (hX6 _ _ (hX5 _ _ (hE4 _ (hB3 _ ?_))))
  refine Aw_st hE [6] [10] fun K hK=>?_
  simp only [go_sem,seval]
  refine hK _ (Aw_ret (hQ _ ?_))
  simp only [go_sem,seval]
  exact ⟨o,⟨by omega,hlo⟩,rfl⟩
def cDPT2:Con:={ pre:=codeArg,post:=fun _ r=>∃ l:List Rt,(l.length≤6001∧lens1 l)∧r = .sl none (rrows l) }
theorem cDPT2_own:cDPT2.own=false:=rfl
theorem cDPT2_draws:cDPT2.draws=false:=rfl
theorem cDPT2_cost:cDPT2.cost=0:=rfl
attribute [go_sem] cDPT2_own cDPT2_draws cDPT2_cost
theorem dpt2_pre (bs:List Nat) (h:∀ b ∈ bs,b < 256):cDPT2.pre [.sl none (byteRows bs)]:=⟨bs,h,rfl⟩
theorem dpt2_post (args:List AV) (K:AV→Prop):(∀ r,cDPT2.post args r→K r)=(∀ (l:List Rt),(l.length≤6001∧lens1 l)→K (.sl none (rrows l))):=by
 apply propext
 exact ⟨fun h x h1=>h _ ⟨x,h1,rfl⟩,fun h r ⟨x,h1,e⟩=>e ▸ h x h1⟩
attribute [go_sem] dpt2_post
theorem drawPickTable_ok:Fine Tryz.prog 4 cDPT2:=by
 refine fine_draw (T:=TT) (C:=cDPT2) Tryz.func4 rfl Tryz.ntmps4 (by rw [Tryz.results4]) rfl rfl tt rfl rfl (G:=[(10,cPickD),(12,cPick),(11,cPAll),(13,cRouteD)]) (D:=[]) (gs_cons l92Pick_ok (gs_cons pick_ok (gs_cons pickAll_ok (gs_cons l91Route_ok gs_nil)))) ds_nil (l1:=[_]) (l2:=[_]) rfl rfl rfl rfl (by decide) open_calls ⟨_,Tryz.func9,rfl,rfl⟩ ?_ ?_
 ·rintro args r ⟨l,_,rfl⟩;rfl
 rintro args ⟨bs,hbs,rfl⟩
 refine ⟨by simp,bs,hbs,fun n E hE J hJ=>?_⟩
 refine Aw_tx hE [0] [] fun K hK=>?_
 simp only [go_sem,seval]
 refine hK _ ?_
 simp only [thenA]
 simp only [go_sem,seval]
 refine hJ _ rfl rfl fun E hE Q hQ=>?_
 simp only [go_sem,seval]
 refine Aw_st hE [3,4,5,6] [] fun K hK=>?_
 simp only [go_sem,seval]
 intro own rs ps hb
 obtain ⟨⟨hrl,hpl⟩,hlr,hlp⟩:=hb
 refine hK _ ?_;clear hK K
 refine Aw_st hE [3,7] [] fun K hK=>?_
 simp only [go_sem,seval]
 refine ⟨⟨⟨by omega,by omega⟩,hlr,hlp⟩,fun L hL=>?_⟩
 obtain ⟨hL1,hL2⟩:=hL
 refine hK _ ?_;clear hK K
 refine Aw_sq fun B1 hB1 hR1 hX1=>?_
 refine Aw_st hE [3,7,22] [] fun K hK=>?_
 simp only [go_sem,seval]
 repeat' (first | (refine And.intro (by first | omega | decide) ?_) | intro)
 refine hK _ (Aw_cond rfl (fun hc9=>?_) (fun hc9=>?_))
 ·refine Aw_st hE [2] [] fun K hK=>?_
  simp only [go_sem,seval,rrows_one]
  refine fun x hx=>⟨⟨rrows_row _,by omega⟩,?_⟩
  have hxs:lens1 (L++[x]):=fun y hy=>by
   rcases List.mem_append.1 hy with hy | hy
   ·exact hL2 y hy
   ·obtain rfl:=List.mem_singleton.1 hy
    obtain ⟨_,q1,_,_,_,q2⟩:=hx
    exact ⟨by omega,by omega⟩
  refine hK _ (Aw_ret (hR1 _ (hQ _ ?_)))
  simp only [go_sem,seval]
  exact ⟨L++[x],⟨by simp;omega,hxs⟩,rfl⟩
 ·refine Aw_skip (hB1 _ ?_)
  refine Aw_st hE [2] [] fun K hK=>?_
  simp only [go_sem,seval]
  refine hK _ (Aw_ret (hQ _ ?_))
  simp only [go_sem,seval]
  exact ⟨L,⟨by omega,hL2⟩,rfl⟩
def entOk (f b v:Int):Bool:=rngOk f b && (decide (1≤v) && decide (v≤9))
def gEnt:List AV→Option (Prop × AV)
 | [.agg [.v (.int .i64 f),.v (.int .i64 b),.v (.int .i64 v)]]=>some (True,bv (entOk f b v))
 | _=>none
def dEnt:DFn:={ g:=gEnt }
attribute [go_sem] gEnt dEnt
theorem l2Entry_ok:Fine Tryz.prog 31 dEnt.con:=by
 refine fine_det (T:=TT) Tryz.func31 rfl Tryz.ntmps31 (by rw [Tryz.results31]) rfl rfl tt (gs_nil) (ds_cons sRangeOk_ok (ds_cons in_ok ds_nil)) ?_
 intro args c r h hc
 simp only [dEnt,gEnt] at h
 split at h
 rotate_left
 ·cases h
 obtain ⟨rfl,rfl⟩:=Prod.mk.inj (Option.some.inj h)
 refine ⟨by simp,fun k E hE Q hQ=>?_⟩
 rename_i f b v
 refine Aw_st hE [1] [1] fun K hK=>?_
 simp only [go_sem,seval]
 refine hK _ ?_;clear hK K
 cases hr:rngOk f b with
 | false =>
  have he:entOk f b v=false:=by unfold entOk;rw [hr];rfl
  refine Aw_st hE [2] [1] fun K hK=>?_
  simp only [go_sem,seval,hr]
  refine hK _ (Aw_ret (hQ _ ?_))
  simp only [go_sem,seval,he]
 | true =>
  have he:entOk f b v=(decide (1≤v) && decide (v≤9)):=by unfold entOk;rw [hr];rfl
  refine Aw_st hE [2] [1] fun K hK=>?_
  simp only [go_sem,seval,hr]
  refine hK _ (Aw_ret (hQ _ ?_))
  simp only [go_sem,seval,he]
theorem entryOk_ok:Fine Tryz.prog 17 dEnt.con:=by
 refine fine_det (T:=TT) Tryz.func17 rfl Tryz.ntmps17 (by rw [Tryz.results17]) rfl rfl tt (gs_nil) (ds_cons rangeOk_ok ds_nil) ?_
 intro args c r h hc
 simp only [dEnt,gEnt] at h
 split at h
 rotate_left
 ·cases h
 obtain ⟨rfl,rfl⟩:=Prod.mk.inj (Option.some.inj h)
 refine ⟨by simp,fun k E hE Q hQ=>?_⟩
 rename_i f b v
 refine Aw_st hE [1] [1] fun K hK=>?_
 simp only [go_sem,seval]
 refine hK _ ?_;clear hK K
 cases hr:rngOk f b with
 | false =>
  have he:entOk f b v=false:=by unfold entOk;rw [hr];rfl
  refine Aw_st hE [2] [1] fun K hK=>?_
  simp only [go_sem,seval,hr]
  refine hK _ (Aw_ret (hQ _ ?_))
  simp only [go_sem,seval,he]
 | true =>
  have he:entOk f b v=(decide (1≤v) && decide (v≤9)):=by unfold entOk;rw [hr];rfl
  by_cases h1:1≤v
  ·have d1:decide (1≤v)=true:=decide_eq_true h1
   rw [d1,Bool.true_and] at he
   refine Aw_st hE [2] [1] fun K hK=>?_
   simp only [go_sem,seval,hr,d1]
   refine hK _ (Aw_ret (hQ _ ?_))
   simp only [go_sem,seval,he]
  ·have d1:decide (1≤v)=false:=decide_eq_false h1
   rw [d1,Bool.false_and] at he
   refine Aw_st hE [2] [1] fun K hK=>?_
   simp only [go_sem,seval,hr,d1]
   refine hK _ (Aw_ret (hQ _ ?_))
   simp only [go_sem,seval,he]
def ascE (l:List Et) (k:Nat) (e:Et):Bool:=match k with
 | 0=>true
 | j + 1=>match l[j]? with
  | some p=>decide (rCmp p.f p.b e.f e.b < 0)
  | none=>true
def stE (l:List Et) (k:Nat):Bool:=match l[k]? with
 | some e=>entOk e.f e.b e.v && ascE l k e
 | none=>true
def upE (l:List Et):Nat→Bool
 | 0=>true
 | n + 1=>upE l n && stE l n
def tOk (l:List Et):Bool:=upE l l.length && decide (l.length≤12)
theorem upE_bad {l:List Et} {i:Nat} (h:stE l i=false):∀ k,i < k→upE l k=false
 | k + 1,hk=>by
  rw [upE]
  by_cases e:i=k
  ·rw [← e,h,Bool.and_false]
  ·rw [upE_bad h k (by omega),Bool.false_and]
theorem upE_at {l:List Et} {n:Nat} (h:upE l n=true):∀ i,i < n→stE l i=true:=by
 induction n with
 | zero=>intro i hi;omega
 | succ n ih =>
  rw [upE,Bool.and_eq_true] at h
  intro i hi
  by_cases e:i=n
  ·rw [e];exact h.2
  ·exact ih h.1 i (by omega)
def gTOk:List AV→Option (Prop × AV)
 | [.sl _ els]=>(match entsL els with | some l=>some (l.length≤100000,bv (tOk l)) | none=>none)
 | _=>none
def dTOk:DFn:={ g:=gTOk }
attribute [go_sem] gTOk dTOk
set_option maxHeartbeats 4000000 in
theorem sTableOk_ok:Fine Tryz.prog 15 dTOk.con:=by
 refine fine_det (T:=TT) Tryz.func15 rfl Tryz.ntmps15 (by rw [Tryz.results15]) rfl rfl tt (gs_nil) (ds_cons l2Entry_ok (ds_cons l1Cmp_ok ds_nil)) ?_
 intro args c r h hc
 simp only [dTOk,gTOk] at h
 split at h
 rotate_left
 ·cases h
 split at h
 rotate_left
 ·cases h
 rename_i t els _ l hen
 obtain rfl:=entsL_eq hen
 obtain ⟨rfl,rfl⟩:=Prod.mk.inj (Option.some.inj h)
 refine ⟨by simp,fun k E hE Q hQ=>?_⟩
 refine Aw_st hE [0] [] fun K hK=>?_
 simp only [go_sem,seval]
 refine hK _ ?_;clear hK K
 refine Aw_sq fun B1 hB1 hR1 hX1=>?_
 refine Aw_st hE [0,3] [] fun K hK=>?_
 simp only [go_sem,seval]
 refine hK _ ?_;clear hK K
 refine Aw_bk fun B2 hN2 hE2 hR2 hX2=>?_
 refine Aw_lp (fun i:Nat=>⟨38,[(0,.sl none (erows l)),(3,iv (i:Int))],[],k⟩) (fun i=>i≤l.length∧upE l i=true) (fun i=>l.length - i) 0 (Le_wa) ⟨by omega,rfl⟩ fun i hi B3 hN3 hR3 hX3=>?_
 obtain ⟨hi,hok⟩:=hi
 refine Aw_sq fun B4 hB4 hR4 hX4=>?_
 refine Aw_st hE [0,3,7] [] fun K hK=>?_
 simp only [go_sem,seval]
 refine hK _ (Aw_cond rfl (fun hc5=>?_) (fun hc5=>?_))
 ·simp only [dte] at hc5
  have hil:i < l.length:=by omega
  have hg:=erows_get l i hil
  have hst:stE l i=(entOk l[i].f l[i].b l[i].v && ascE l i l[i]):=by unfold stE;rw [List.getElem?_eq_getElem hil]
  have hup:upE l (i + 1)=stE l i:=by rw [upE,hok,Bool.true_and]
  refine Aw_skip (hB4 _ ?_)
  refine Aw_sq fun B6 hB6 hR6 hX6=>?_
  refine Aw_bk fun B7 hN7 hE7 hR7 hX7=>?_
  cases hro:entOk l[i].f l[i].b l[i].v with
  | false =>
   have hno:tOk l=false:=by
    unfold tOk
    rw [upE_bad (by rw [hst,hro];rfl) _ hil];rfl
   refine Aw_se hE [0,1,2,3,4,5,6,7,8,9,10,11,12,13,14,15,16,17,18,19,20,21,22,23,24] [0,0,3,7,15,31,63,127,255,511,1023,1023,3071,8191,16383,32767,1023,1023,197631,459775,984063,2097151,4194303,8388607,16777215] [0,3,34] [] (by kernel_rfl) fun K hK=>?_
   refine daopsE_cut 6 fun K1 hK1=>?_
   simp only [go_sem,seval,hg,hro,Bool.not_false]
   repeat refine sd0 ?_
   refine hK1 _ ?_
   clear hK1
   refine daopsE_cut 6 fun K1 hK1=>?_
   simp only [go_sem,seval,hg,hro,Bool.not_false]
   repeat refine sd0 ?_
   refine hK1 _ ?_
   clear hK1
   refine daopsE_cut 6 fun K1 hK1=>?_
   simp only [go_sem,seval,hg,hro,Bool.not_false]
   repeat refine sd0 ?_
   refine hK1 _ ?_
   clear hK1
   refine daopsE_cut 6 fun K1 hK1=>?_
   simp only [go_sem,seval,hg,hro,Bool.not_false]
   repeat refine sd0 ?_
   refine hK1 _ ?_
   clear hK1
   simp only [go_sem,seval,hg,hro,Bool.not_false]
   repeat refine sd0 ?_
   refine hK _ (Aw_yes rfl ?_)
   refine Aw_st hE [2] [] fun K hK=>?_
   simp only [go_sem,seval]
   refine hK _ (Aw_ret (hR7 _ (hR6 _ (hR3 _ (hR2 _ (hR1 _ (hQ _ ?_)))))))
   simp only [go_sem,seval,hno]
  | true =>
   rw [hro,Bool.true_and] at hst
   by_cases h0:i=0
   ·have d0:decide ((0:Int) < (i:Int))=false:=decide_eq_false (by omega)
    have has:ascE l i l[i]=true:=by subst h0;rfl
    rw [has] at hst
    refine Aw_se hE [0,1,2,3,4,5,6,7,8,9,10,11,12,13,14,15,16,17,18,19,20,21,22,23,24] [0,0,3,7,15,31,63,127,255,511,1023,1023,3071,8191,16383,32767,1023,1023,197631,459775,984063,2097151,4194303,8388607,16777215] [0,3,34] [] (by kernel_rfl) fun K hK=>?_
    refine daopsE_cut 6 fun K1 hK1=>?_
    simp only [go_sem,seval,hg,hro,d0,Bool.not_true]
    repeat refine sd0 ?_
    refine hK1 _ ?_
    clear hK1
    refine daopsE_cut 6 fun K1 hK1=>?_
    simp only [go_sem,seval,hg,hro,d0,Bool.not_true]
    repeat refine sd0 ?_
    refine hK1 _ ?_
    clear hK1
    refine daopsE_cut 6 fun K1 hK1=>?_
    simp only [go_sem,seval,hg,hro,d0,Bool.not_true]
    repeat refine sd0 ?_
    refine hK1 _ ?_
    clear hK1
    refine daopsE_cut 6 fun K1 hK1=>?_
    simp only [go_sem,seval,hg,hro,d0,Bool.not_true]
    repeat refine sd0 ?_
    refine hK1 _ ?_
    clear hK1
    simp only [go_sem,seval,hg,hro,d0,Bool.not_true]
    repeat refine sd0 ?_
    refine hK _ (Aw_no rfl ?_)
    refine Aw_skip (hN7 _ (hB6 _ ?_))
    refine Aw_tx hE [0,3] [] fun K hK=>?_
    simp only [go_sem,seval]
    repeat refine sd0 ?_
    refine hK _ (hN3 (i + 1) _ ⟨by omega,hup.trans hst⟩ (by omega) (Le_wb (by simp only [go_sem,seval,Int.natCast_add,Int.natCast_one])))
   ·have d0:decide ((0:Int) < (i:Int))=true:=decide_eq_true (by omega)
    have hi1:((i:Int) - 1).toNat=i - 1:=by omega
    have hil1:i - 1 < l.length:=by omega
    have hg1:=erows_get l (i - 1) hil1
    have has:ascE l i l[i]=decide (rCmp l[i - 1].f l[i - 1].b l[i].f l[i].b < 0):=by
     obtain ⟨j,rfl⟩:∃ j,i=j + 1:=⟨i - 1,by omega⟩
     simp only [ascE,Nat.add_sub_cancel,List.getElem?_eq_getElem (show j < l.length by omega)]
    rw [has] at hst
    by_cases hlt:rCmp l[i - 1].f l[i - 1].b l[i].f l[i].b < 0
    ·have d1:decide (0≤rCmp l[i - 1].f l[i - 1].b l[i].f l[i].b)=false:=decide_eq_false (by omega)
     rw [decide_eq_true hlt] at hst
     refine Aw_se hE [0,1,2,3,4,5,6,7,8,9,10,11,12,13,14,15,16,17,18,19,20,21,22,23,24] [0,0,3,7,15,31,63,127,255,511,1023,1023,3071,8191,16383,32767,1023,1023,197631,459775,984063,2097151,4194303,8388607,16777215] [0,3,34] [] (by kernel_rfl) fun K hK=>?_
     refine daopsE_cut 6 fun K1 hK1=>?_
     simp only [go_sem,seval,hg,hro,d0,hi1,hg1,d1,Bool.not_true]
     repeat refine sd0 ?_
     refine hK1 _ ?_
     clear hK1
     refine daopsE_cut 6 fun K1 hK1=>?_
     simp only [go_sem,seval,hg,hro,d0,hi1,hg1,d1,Bool.not_true]
     repeat refine sd0 ?_
     refine hK1 _ ?_
     clear hK1
     refine daopsE_cut 6 fun K1 hK1=>?_
     simp only [go_sem,seval,hg,hro,d0,hi1,hg1,d1,Bool.not_true]
     repeat refine sd0 ?_
     refine hK1 _ ?_
     clear hK1
     refine daopsE_cut 6 fun K1 hK1=>?_
     simp only [go_sem,seval,hg,hro,d0,hi1,hg1,d1,Bool.not_true]
     repeat refine sd0 ?_
     refine hK1 _ ?_
     clear hK1
     simp only [go_sem,seval,hg,hro,d0,hi1,hg1,d1,Bool.not_true]
     repeat refine sd0 ?_
     refine hK _ (Aw_no rfl ?_)
     refine Aw_skip (hN7 _ (hB6 _ ?_))
     refine Aw_tx hE [0,3] [] fun K hK=>?_
     simp only [go_sem,seval]
     repeat refine sd0 ?_
     refine hK _ (hN3 (i + 1) _ ⟨by omega,hup.trans hst⟩ (by omega) (Le_wb (by simp only [go_sem,seval,Int.natCast_add,Int.natCast_one])))
    ·have d1:decide (0≤rCmp l[i - 1].f l[i - 1].b l[i].f l[i].b)=true:=decide_eq_true (by omega)
     rw [decide_eq_false hlt] at hst
     have hno:tOk l=false:=by
      unfold tOk
      rw [upE_bad hst _ hil];rfl
     refine Aw_se hE [0,1,2,3,4,5,6,7,8,9,10,11,12,13,14,15,16,17,18,19,20,21,22,23,24] [0,0,3,7,15,31,63,127,255,511,1023,1023,3071,8191,16383,32767,1023,1023,197631,459775,984063,2097151,4194303,8388607,16777215] [0,3,34] [] (by kernel_rfl) fun K hK=>?_
     refine daopsE_cut 6 fun K1 hK1=>?_
     simp only [go_sem,seval,hg,hro,d0,hi1,hg1,d1,Bool.not_true]
     repeat refine sd0 ?_
     refine hK1 _ ?_
     clear hK1
     refine daopsE_cut 6 fun K1 hK1=>?_
     simp only [go_sem,seval,hg,hro,d0,hi1,hg1,d1,Bool.not_true]
     repeat refine sd0 ?_
     refine hK1 _ ?_
     clear hK1
     refine daopsE_cut 6 fun K1 hK1=>?_
     simp only [go_sem,seval,hg,hro,d0,hi1,hg1,d1,Bool.not_true]
     repeat refine sd0 ?_
     refine hK1 _ ?_
     clear hK1
     refine daopsE_cut 6 fun K1 hK1=>?_
     simp only [go_sem,seval,hg,hro,d0,hi1,hg1,d1,Bool.not_true]
     repeat refine sd0 ?_
     refine hK1 _ ?_
     clear hK1
     simp only [go_sem,seval,hg,hro,d0,hi1,hg1,d1,Bool.not_true]
     repeat refine sd0 ?_
     refine hK _ (Aw_yes rfl ?_)
     refine Aw_st hE [2] [] fun K hK=>?_
     simp only [go_sem,seval]
     refine hK _ (Aw_ret (hR7 _ (hR6 _ (hR3 _ (hR2 _ (hR1 _ (hQ _ ?_)))))))
     simp only [go_sem,seval,hno]
 ·simp only [dfn] at hc5
  obtain rfl:i=l.length:=by omega
  have he:tOk l=decide ((l.length:Int)≤12):=by
   unfold tOk
   rw [hok,Bool.true_and,decide_eq_decide]
   omega
  refine Aw_exit (hX4 _ _ (hX3 _ _ (hE2 _ (hB1 _ ?_))))
  refine Aw_st hE [2] [] fun K hK=>?_
  simp only [go_sem,seval]
  refine hK _ (Aw_ret (hQ _ ?_))
  simp only [go_sem,seval,he]
set_option maxHeartbeats 4000000 in
theorem iTableOk_ok:Fine Tryz.prog 8 dTOk.con:=by
 refine fine_det (T:=TT) Tryz.func8 rfl Tryz.ntmps8 (by rw [Tryz.results8]) rfl rfl tt (gs_nil) (ds_cons entryOk_ok (ds_cons iRgCmp_ok ds_nil)) ?_
 intro args c r h hc
 simp only [dTOk,gTOk] at h
 split at h
 rotate_left
 ·cases h
 split at h
 rotate_left
 ·cases h
 rename_i t els _ l hen
 obtain rfl:=entsL_eq hen
 obtain ⟨rfl,rfl⟩:=Prod.mk.inj (Option.some.inj h)
 refine ⟨by simp,fun k E hE Q hQ=>?_⟩
 refine Aw_st hE [0] [4] fun K hK=>?_
 simp only [go_sem,seval]
 refine hK _ ?_;clear hK K
 refine Aw_sq fun B1 hB1 hR1 hX1=>?_
 refine Aw_st hE [0,7] [4] fun K hK=>?_
 simp only [go_sem,seval]
 refine hK _ (Aw_cond rfl (fun hc2=>?_) (fun hc2=>?_))
 ·simp only [dte] at hc2
  have hno:tOk l=false:=by unfold tOk;rw [decide_eq_false (by omega),Bool.and_false]
  refine Aw_st hE [2] [4] fun K hK=>?_
  simp only [go_sem,seval]
  refine hK _ (Aw_ret (hR1 _ (hQ _ ?_)))
  simp only [go_sem,seval,hno]
 ·simp only [dfn] at hc2
  refine Aw_skip (hB1 _ ?_)
  refine Aw_sq fun B3 hB3 hR3 hX3=>?_
  refine Aw_st hE [0,8,9,10] [4] fun K hK=>?_
  simp only [go_sem,seval]
  refine hK _ ?_;clear hK K
  refine Aw_bk fun B4 hN4 hE4 hR4 hX4=>?_
  refine Aw_lp (fun i:Nat=>⟨35,[(0,.sl none (erows l)),(8,.sl none (erows l)),(9,iv l.length),(10,iv i)],[],k⟩) (fun i=>i≤l.length∧upE l i=true) (fun i=>l.length - i) 0 (Le_wa) ⟨by omega,rfl⟩ fun i hi B5 hN5 hR5 hX5=>?_
  obtain ⟨hi,hok⟩:=hi
  refine Aw_st hE [0,8,9,10,11] [4] fun K hK=>?_
  simp only [go_sem,seval]
  refine hK _ ?_;clear hK K
  refine Aw_sq fun B6 hB6 hR6 hX6=>?_
  refine Aw_cond rfl (fun hc7=>?_) (fun hc7=>?_)
  ·simp only [dte] at hc7
   have hil:i < l.length:=by omega
   have hg:=erows_get l i hil
   have hst:stE l i=(entOk l[i].f l[i].b l[i].v && ascE l i l[i]):=by unfold stE;rw [List.getElem?_eq_getElem hil]
   have hup:upE l (i + 1)=stE l i:=by rw [upE,hok,Bool.true_and]
   refine Aw_skip (hB6 _ ?_)
   refine Aw_sq fun B8 hB8 hR8 hX8=>?_
   refine Aw_bk fun B9 hN9 hE9 hR9 hX9=>?_
   refine Aw_st hE [0,3,4,8,9,10] [4] fun K hK=>?_
   simp only [go_sem,seval,hg]
   repeat refine sd0 ?_
   refine hK _ ?_;clear hK K
   cases hro:entOk l[i].f l[i].b l[i].v with
   | false =>
    have hno:tOk l=false:=by
     unfold tOk
     rw [upE_bad (by rw [hst,hro];rfl) _ hil];rfl
    refine Aw_se hE [0,1,2,3,4,5,6,7,8,9,10,11,12,13,14,15,16,17,18] [0,1,3,7,15,31,63,127,127,383,1023,2047,4095,127,8319,32767,65535,131071,262143] [0,8,9,10,33] [4] (by kernel_rfl) fun K hK=>?_
    refine daopsE_cut 6 fun K1 hK1=>?_
    simp only [go_sem,seval,hg,hro,Bool.not_false]
    repeat refine sd0 ?_
    refine hK1 _ ?_
    clear hK1
    refine daopsE_cut 6 fun K1 hK1=>?_
    simp only [go_sem,seval,hg,hro,Bool.not_false]
    repeat refine sd0 ?_
    refine hK1 _ ?_
    clear hK1
    refine daopsE_cut 6 fun K1 hK1=>?_
    simp only [go_sem,seval,hg,hro,Bool.not_false]
    repeat refine sd0 ?_
    refine hK1 _ ?_
    clear hK1
    simp only [go_sem,seval,hg,hro,Bool.not_false]
    repeat refine sd0 ?_
    refine hK _ (Aw_yes rfl ?_)
    refine Aw_st hE [2] [4] fun K hK=>?_
    simp only [go_sem,seval]
    refine hK _ (Aw_ret (hR9 _ (hR8 _ (hR5 _ (hR4 _ (hR3 _ (hQ _ ?_)))))))
    simp only [go_sem,seval,hno]
   | true =>
    rw [hro,Bool.true_and] at hst
    have hrr:rngOk l[i].f l[i].b=true:=by simp only [entOk,Bool.and_eq_true] at hro;exact hro.1
    by_cases h0:i=0
    ·have d0:decide ((0:Int) < (i:Int))=false:=decide_eq_false (by omega)
     have has:ascE l i l[i]=true:=by subst h0;rfl
     rw [has] at hst
     refine Aw_se hE [0,1,2,3,4,5,6,7,8,9,10,11,12,13,14,15,16,17,18] [0,1,3,7,15,31,63,127,127,383,1023,2047,4095,127,8319,32767,65535,131071,262143] [0,8,9,10,33] [4] (by kernel_rfl) fun K hK=>?_
     refine daopsE_cut 6 fun K1 hK1=>?_
     simp only [go_sem,seval,hg,hro,d0,Bool.not_true]
     repeat refine sd0 ?_
     refine hK1 _ ?_
     clear hK1
     refine daopsE_cut 6 fun K1 hK1=>?_
     simp only [go_sem,seval,hg,hro,d0,Bool.not_true]
     repeat refine sd0 ?_
     refine hK1 _ ?_
     clear hK1
     refine daopsE_cut 6 fun K1 hK1=>?_
     simp only [go_sem,seval,hg,hro,d0,Bool.not_true]
     repeat refine sd0 ?_
     refine hK1 _ ?_
     clear hK1
     simp only [go_sem,seval,hg,hro,d0,Bool.not_true]
     repeat refine sd0 ?_
     refine hK _ (Aw_no rfl ?_)
     refine Aw_skip (hN9 _ (hB8 _ ?_))
     refine Aw_tx hE [0,8,9,10] [4] fun K hK=>?_
     simp only [go_sem,seval]
     repeat refine sd0 ?_
     refine hK _ (hN5 (i + 1) _ ⟨by omega,hup.trans hst⟩ (by omega) (Le_wb (by simp only [go_sem,seval,Int.natCast_add,Int.natCast_one])))
    ·have d0:decide ((0:Int) < (i:Int))=true:=decide_eq_true (by omega)
     have hi1:((i:Int) - 1).toNat=i - 1:=by omega
     have hil1:i - 1 < l.length:=by omega
     have hg1:=erows_get l (i - 1) hil1
     have hr1:rngOk l[i - 1].f l[i - 1].b=true:=by
      have h2:=upE_at hok (i - 1) (by omega)
      unfold stE at h2
      rw [List.getElem?_eq_getElem hil1] at h2
      simp only [Bool.and_eq_true,entOk] at h2
      exact h2.1.1
     have has:ascE l i l[i]=decide (rCmp l[i - 1].f l[i - 1].b l[i].f l[i].b < 0):=by
      obtain ⟨j,rfl⟩:∃ j,i=j + 1:=⟨i - 1,by omega⟩
      simp only [ascE,Nat.add_sub_cancel,List.getElem?_eq_getElem (show j < l.length by omega)]
     rw [has] at hst
     by_cases hlt:rCmp l[i - 1].f l[i - 1].b l[i].f l[i].b < 0
     ·have d1:decide (0≤rCmp l[i - 1].f l[i - 1].b l[i].f l[i].b)=false:=decide_eq_false (by omega)
      rw [decide_eq_true hlt] at hst
      refine Aw_se hE [0,1,2,3,4,5,6,7,8,9,10,11,12,13,14,15,16,17,18] [0,1,3,7,15,31,63,127,127,383,1023,2047,4095,127,8319,32767,65535,131071,262143] [0,8,9,10,33] [4] (by kernel_rfl) fun K hK=>?_
      refine daopsE_cut 6 fun K1 hK1=>?_
      simp only [go_sem,seval,hg,hro,d0,hi1,hg1,d1,hrr,hr1,Bool.not_true,Bool.and_self,if_true]
      repeat refine sd0 ?_
      refine hK1 _ ?_
      clear hK1
      refine daopsE_cut 6 fun K1 hK1=>?_
      simp only [go_sem,seval,hg,hro,d0,hi1,hg1,d1,hrr,hr1,Bool.not_true,Bool.and_self,if_true]
      repeat refine sd0 ?_
      refine hK1 _ ?_
      clear hK1
      refine daopsE_cut 6 fun K1 hK1=>?_
      simp only [go_sem,seval,hg,hro,d0,hi1,hg1,d1,hrr,hr1,Bool.not_true,Bool.and_self,if_true]
      repeat refine sd0 ?_
      refine hK1 _ ?_
      clear hK1
      simp only [go_sem,seval,hg,hro,d0,hi1,hg1,d1,hrr,hr1,Bool.not_true,Bool.and_self,if_true]
      repeat refine sd0 ?_
      refine hK _ (Aw_no rfl ?_)
      refine Aw_skip (hN9 _ (hB8 _ ?_))
      refine Aw_tx hE [0,8,9,10] [4] fun K hK=>?_
      simp only [go_sem,seval]
      repeat refine sd0 ?_
      refine hK _ (hN5 (i + 1) _ ⟨by omega,hup.trans hst⟩ (by omega) (Le_wb (by simp only [go_sem,seval,Int.natCast_add,Int.natCast_one])))
     ·have d1:decide (0≤rCmp l[i - 1].f l[i - 1].b l[i].f l[i].b)=true:=decide_eq_true (by omega)
      rw [decide_eq_false hlt] at hst
      have hno:tOk l=false:=by
       unfold tOk
       rw [upE_bad hst _ hil];rfl
      refine Aw_se hE [0,1,2,3,4,5,6,7,8,9,10,11,12,13,14,15,16,17,18] [0,1,3,7,15,31,63,127,127,383,1023,2047,4095,127,8319,32767,65535,131071,262143] [0,8,9,10,33] [4] (by kernel_rfl) fun K hK=>?_
      refine daopsE_cut 6 fun K1 hK1=>?_
      simp only [go_sem,seval,hg,hro,d0,hi1,hg1,d1,hrr,hr1,Bool.not_true,Bool.and_self,if_true]
      repeat refine sd0 ?_
      refine hK1 _ ?_
      clear hK1
      refine daopsE_cut 6 fun K1 hK1=>?_
      simp only [go_sem,seval,hg,hro,d0,hi1,hg1,d1,hrr,hr1,Bool.not_true,Bool.and_self,if_true]
      repeat refine sd0 ?_
      refine hK1 _ ?_
      clear hK1
      refine daopsE_cut 6 fun K1 hK1=>?_
      simp only [go_sem,seval,hg,hro,d0,hi1,hg1,d1,hrr,hr1,Bool.not_true,Bool.and_self,if_true]
      repeat refine sd0 ?_
      refine hK1 _ ?_
      clear hK1
      simp only [go_sem,seval,hg,hro,d0,hi1,hg1,d1,hrr,hr1,Bool.not_true,Bool.and_self,if_true]
      repeat refine sd0 ?_
      refine hK _ (Aw_yes rfl ?_)
      refine Aw_st hE [2] [4] fun K hK=>?_
      simp only [go_sem,seval]
      refine hK _ (Aw_ret (hR9 _ (hR8 _ (hR5 _ (hR4 _ (hR3 _ (hQ _ ?_)))))))
      simp only [go_sem,seval,hno]
  ·simp only [dfn] at hc7
   obtain rfl:i=l.length:=by omega
   have he:tOk l=true:=by
    unfold tOk
    rw [hok,Bool.true_and,dte]
    omega
   refine Aw_exit (hX6 _ _ (hX5 _ _ (hE4 _ (hB3 _ ?_))))
   refine Aw_st hE [2] [4] fun K hK=>?_
   simp only [go_sem,seval]
   refine hK _ (Aw_ret (hQ _ ?_))
   simp only [go_sem,seval,he]
def entOf (r:Rt):Et:=⟨r.f,r.b,r.path.getD 0 0⟩
def tbl (l:List Rt):List Et:=l.map entOf
theorem tbl_len (l:List Rt):(tbl l).length=l.length:=by simp [tbl]
def pTab (l:List Rt):Option (List Et):=if l.all okR && tOk (tbl l) then some (tbl l) else none
def resT:Option (List Et)→AV
 | some x=>.tup [.sl none (erows x),bv true]
 | none=>.tup [.sl none [],bv false]
def gPT:List AV→Option (Prop × AV)
 | [.sl _ els]=>(match rtsL els with | some l=>some (l.length≤100000∧lens1 l,resT (pTab l)) | none=>none)
 | _=>none
def dPT:DFn:={ g:=gPT }
def dPTI (pb:Addr):DFn:={ g:=gPT,inv:=WP pb }
attribute [go_sem] gPT dPT dPTI
theorem path0 {r:Rt} (h:okR r=true):∃ x,(rows r.path)[0]? = some [.v (.int .i64 x)]∧r.path.getD 0 0=x∧0 < r.path.length:=by
 have h1:=(okR_parts h).2.1
 refine ⟨r.path.getD 0 0,?_,rfl,h1⟩
 have:=rows_get r.path 0 h1
 rw [this]
theorem tbl_take {l:List Rt} {i:Nat} (hi:i < l.length):tbl (l.take (i + 1))=tbl (l.take i)++[entOf l[i]]:=by
 rw [List.take_succ_eq_append_getElem hi];unfold tbl;rw [List.map_append];rfl
theorem all_no {l:List Rt} {i:Nat} (hi:i < l.length) (h:okR l[i]=false):pTab l=none:=by
 unfold pTab
 have:l.all okR=false:=by
  rw [List.all_eq_false]
  exact ⟨l[i],List.getElem_mem hi,by rw [h];simp⟩
 rw [this];rfl
theorem all_step {l:List Rt} {i:Nat} (hi:i < l.length) (h:(l.take i).all okR=true) (h2:okR l[i]=true):(l.take (i + 1)).all okR=true:=by
 rw [List.take_succ_eq_append_getElem hi,List.all_append,h];simp [h2]
def ptS (l:List Rt) (k i:Nat):St:=⟨41,[(0,.sl none (rrows l)),(4,.sl (some (6,0,32)) (erows (tbl (l.take i)))),(5,iv i)],[],k⟩
set_option maxHeartbeats 4000000 in
theorem sPickTable_ok:Fine Tryz.prog 5 dPT.con:=by
 refine fine_det (T:=TT) Tryz.func5 rfl Tryz.ntmps5 (by rw [Tryz.results5]) rfl rfl tt (gs_nil) (ds_cons sRtOk_ok (ds_cons sTableOk_ok ds_nil)) ?_
 intro args c r h hc
 simp only [dPT,gPT] at h
 split at h
 rotate_left
 ·cases h
 split at h
 rotate_left
 ·cases h
 rename_i t els _ l hrt
 obtain rfl:=rtsL_eq hrt
 obtain ⟨rfl,rfl⟩:=Prod.mk.inj (Option.some.inj h)
 refine ⟨by simp,fun k E hE Q hQ=>?_⟩
 obtain ⟨hl,hs⟩:=hc
 refine Aw_st hE [0] [] fun K hK=>?_
 simp only [go_sem,seval]
 refine hK _ ?_;clear hK K
 refine Aw_st hE [0,4] [] fun K hK=>?_
 simp only [go_sem,seval]
 refine hK _ ?_;clear hK K
 refine Aw_sq fun B1 hB1 hR1 hX1=>?_
 refine Aw_st hE [0,4,5] [] fun K hK=>?_
 simp only [go_sem,seval]
 refine hK _ ?_;clear hK K
 refine Aw_bk fun B2 hN2 hE2 hR2 hX2=>?_
 refine Aw_lp (fun i:Nat=>ptS l k i) (fun i=>i≤l.length∧(l.take i).all okR=true) (fun i=>l.length - i) 0 (Le_wk (by first | omega | (dsimp only;omega) | (simp only;omega) | (simp;omega)) (by simp only [go_sem,seval];all_goals rfl) (by simp only [go_sem,seval])) ⟨by omega,by simp⟩ fun i hi B3 hN3 hR3 hX3=>?_
 obtain ⟨hi,hok⟩:=hi
 simp only [ptS]
 refine Aw_sq fun B4 hB4 hR4 hX4=>?_
 refine Aw_st hE [0,4,5,10] [] fun K hK=>?_
 simp only [go_sem,seval]
 refine hK _ (Aw_cond rfl (fun hc5=>?_) (fun hc5=>?_))
 ·simp only [dte] at hc5
  have hil:i < l.length:=by omega
  have hg:=rrow_at l i hil
  obtain ⟨hp,hm⟩:=hs _ (List.getElem_mem hil)
  have hno:=all_no hil
  have hst:=all_step hil hok
  have htk:=tbl_take hil
  have hp0:=path0 (r:=l[i])
  generalize l[i]=x at hg hp hm hno hst htk hp0
  have hln:x.path.length≤4294967296∧x.marks.length≤4294967296:=by omega
  refine Aw_skip (hB4 _ ?_)
  refine Aw_sq fun B6 hB6 hR6 hX6=>?_
  refine Aw_bk fun B7 hN7 hE7 hR7 hX7=>?_
  refine Aw_sq fun B8 hB8 hR8 hX8=>?_
  cases hro:okR x with
  | false =>
   have hro':rtOk x.f x.b x.path x.like x.marks=false:=hro
   have hz:=hno hro
   refine Aw_st hE [0,4,5,18] [] fun K hK=>?_
   simp only [go_sem,seval,hg,hro']
   refine ⟨by omega,hln,hK _ (Aw_yes rfl ?_)⟩
   refine Aw_st hE [2,3] [] fun K hK=>?_
   simp only [go_sem,seval]
   refine hK _ (Aw_ret (hR8 _ (hR7 _ (hR6 _ (hR3 _ (hR2 _ (hR1 _ (hQ _ ?_))))))))
   simp only [go_sem,seval,hz,resT]
  | true =>
   have hro':rtOk x.f x.b x.path x.like x.marks=true:=hro
   obtain ⟨v,hv1,hv2,hv3⟩:=hp0 hro
   have hv4:1≤(rows x.path).length:=by rw [rows_len];omega
   refine Aw_st hE [0,4,5,18] [] fun K hK=>?_
   simp only [go_sem,seval,hg,hro']
   refine ⟨by omega,hln,hK _ (Aw_no rfl (Aw_skip (hB8 _ ?_)))⟩
   have htl:(tbl (l.take i)).length≤4294967295:=by rw [tbl_len,List.length_take];omega
   have herw:=fun L:List Et=>erows_row L
   apply (fun F0 F1 F2 F3 F4 F5 F6 F7=>Aw_tD hE [([0,1,2,3,4,6,7,8,9],(.alt 5 (.ref 1) (.alt 10 (.ref 2) .non))),([0,1,2,3,4,5,6,7,8,9],(.alt 10 (.ref 3) .non)),([0,1,2,3,4,6,7,8,9,10],(.alt 5 (.ref 3) (.alt 11 (.ref 4) .non))),([0,1,2,3,4,5,6,7,8,9,10],(.alt 11 (.ref 5) .non)),([0,1,2,3,4,6,7,8,9,10,11],(.alt 5 (.ref 5) (.alt 12 (.ref 6) .non))),([0,1,2,3,4,5,6,7,8,9,10,11],(.alt 12 (.ref 7) .non)),([0,1,2,3,4,6,7,8,9,10,11,12],(.alt 5 (.ref 7) .non)),([0,1,2,3,4,5,6,7,8,9,10,11,12],(.alt 13 (.alt 14 (.alt 15 (.fst 16 .done) .non) .non) .non))] (.fst 0 (.fst 1 (.fst 2 (.fst 6 (.fst 7 (.alt 3 (.fst 4 (.alt 5 (.alt 8 (.fst 9 (.ref 1)) .non) (.alt 8 (.fst 9 (.ref 0)) .non))) (.alt 8 (.fst 9 (.alt 3 (.fst 4 (.ref 0)) (.alt 10 (.alt 3 (.fst 4 (.ref 2)) (.alt 11 (.alt 3 (.fst 4 (.ref 4)) (.alt 12 (.alt 3 (.fst 4 (.ref 6)) .non) .non)) .non)) .non))) .non))))))) [F0,F1,F2,F3,F4,F5,F6,F7] [0,4,5] [])
   ·kernel_rfl
   intro K hK
   refine And.intro ?_ (And.intro ?_ (And.intro ?_ (And.intro ?_ (And.intro ?_ (And.intro ?_ (And.intro ?_ (And.intro ?_ (And.intro ?_ trivial))))))))
   iterate 8 (focus (simp only [go_sem,seval,hg,hv1,erows_one];repeat' (first | exact (fun _ _ r=>r) | exact LeE_eq (by simp only [go_sem,seval,hg,hv1,erows_one]) (by simp only [go_sem,seval,hg,hv1,erows_one]) | exact LeE_wk (by simp only [go_sem,seval,hg,hv1,erows_one]) (by simp only [go_sem,seval,hg,hv1,erows_one]) | refine And.intro (by first|omega|(and_intros<;>first|omega|exact crows_row _|exact rrows_row _|exact rows_row _|decide|(simp<;>omega))|fail) ?_ | refine And.intro ?_ ?_)))
   simp only [go_sem,seval,hg,hv1,erows_one]
   have he:entOf x=⟨x.f,x.b,v⟩:=by unfold entOf;rw [hv2]
   rw [he] at htk
   refine ⟨⟨herw _,htl⟩,?_⟩
   refine hK _ (hN7 _ (hB6 _ ?_))
   refine Aw_tx hE [0,4,5] [] fun K hK=>?_
   simp only [go_sem,seval]
   repeat refine sd0 ?_
   refine hK _ (hN3 (i + 1) _ ⟨by omega,hst hro⟩ (by omega) ?_)
   simp only [ptS]
   rw [htk]
   exact Le_tk 35 6 rfl
 ·simp only [dfn] at hc5
  obtain rfl:i=l.length:=by omega
  rw [List.take_length] at hok ⊢
  refine Aw_exit (hX4 _ _ (hX3 _ _ (hE2 _ (hB1 _ ?_))))
  refine Aw_sq fun B10 hB10 hR10 hX10=>?_
  have htl:=tbl_len l
  cases ht:tOk (tbl l) with
  | false =>
   have hz:pTab l=none:=by unfold pTab;rw [hok,ht];rfl
   refine Aw_st hE [4,38] [] fun K hK=>?_
   simp only [go_sem,seval,ht]
   refine ⟨by omega,hK _ (Aw_yes rfl ?_)⟩
   refine Aw_st hE [2,3] [] fun K hK=>?_
   simp only [go_sem,seval]
   refine hK _ (Aw_ret (hR10 _ (hQ _ ?_)))
   simp only [go_sem,seval,hz,resT]
  | true =>
   have hz:pTab l=some (tbl l):=by unfold pTab;rw [hok,ht];rfl
   refine Aw_st hE [4,38] [] fun K hK=>?_
   simp only [go_sem,seval,ht]
   refine ⟨by omega,hK _ (Aw_no rfl (Aw_skip (hB10 _ ?_)))⟩
   refine Aw_st hE [2,3] [] fun K hK=>?_
   simp only [go_sem,seval]
   refine hK _ (Aw_ret (hQ _ ?_))
   simp only [go_sem,seval,hz,resT]
def piS (l:List Rt) (k i:Nat):St:=⟨31,[(4,.sl (some (25,0,32)) (erows (tbl (l.take i)))),(7,.sl none (rrows l)),(8,iv l.length),(9,iv i)],[],k⟩
set_option maxHeartbeats 4000000 in
theorem iPickTable_ok (pb:Addr):Fine Tryz.prog 6 (dPTI pb).con:=by
 refine fine_det (T:=TT) Tryz.func6 rfl Tryz.ntmps6 (by rw [Tryz.results6]) rfl rfl tt (gs_nil) (ds_cons (iRtOk_ok pb) (ds_cons iTableOk_ok ds_nil) (wp_inh pb)) ?_
 intro args c r h hc
 simp only [dPTI,gPT] at h
 split at h
 rotate_left
 ·cases h
 split at h
 rotate_left
 ·cases h
 rename_i t els _ l hrt
 obtain rfl:=rtsL_eq hrt
 obtain ⟨rfl,rfl⟩:=Prod.mk.inj (Option.some.inj h)
 refine ⟨by simp,fun k E hE Q hQ=>?_⟩
 obtain ⟨hl,hs⟩:=hc
 refine Aw_st hE [0] [6] fun K hK=>?_
 simp only [go_sem,seval]
 refine hK _ ?_;clear hK K
 refine Aw_st hE [0,4] [6] fun K hK=>?_
 simp only [go_sem,seval]
 refine hK _ ?_;clear hK K
 refine Aw_sq fun B1 hB1 hR1 hX1=>?_
 refine Aw_st hE [4,7,8,9] [6] fun K hK=>?_
 simp only [go_sem,seval]
 refine hK _ ?_;clear hK K
 refine Aw_bk fun B2 hN2 hE2 hR2 hX2=>?_
 refine Aw_lp (fun i:Nat=>piS l k i) (fun i=>i≤l.length∧(l.take i).all okR=true) (fun i=>l.length - i) 0 ((Le_own 25 32 4 rfl).trans (Le_wk (Nat.le_refl _) (by simp only [go_sem,seval];all_goals rfl) (by simp only [go_sem,seval]))) ⟨by omega,by simp⟩ fun i hi B3 hN3 hR3 hX3=>?_
 obtain ⟨hi,hok⟩:=hi
 simp only [piS]
 refine Aw_st hE [4,7,8,9,10] [6] fun K hK=>?_
 simp only [go_sem,seval]
 refine hK _ ?_;clear hK K
 refine Aw_sq fun B4 hB4 hR4 hX4=>?_
 refine Aw_cond rfl (fun hc5=>?_) (fun hc5=>?_)
 ·simp only [dte] at hc5
  have hil:i < l.length:=by omega
  have hg:=rrow_at l i hil
  obtain ⟨hp,hm⟩:=hs _ (List.getElem_mem hil)
  have hno:=all_no hil
  have hst:=all_step hil hok
  have htk:=tbl_take hil
  have hp0:=path0 (r:=l[i])
  generalize l[i]=x at hg hp hm hno hst htk hp0
  have hln:x.path.length≤4294967296∧x.marks.length≤4294967296:=by omega
  refine Aw_skip (hB4 _ ?_)
  refine Aw_sq fun B6 hB6 hR6 hX6=>?_
  refine Aw_bk fun B7 hN7 hE7 hR7 hX7=>?_
  refine Aw_st hE [4,6,7,8,9] [6] fun K hK=>?_
  simp only [go_sem,seval,hg]
  repeat refine sd0 ?_
  refine hK _ ?_;clear hK K
  refine Aw_sq fun B8 hB8 hR8 hX8=>?_
  cases hro:okR x with
  | false =>
   have hro':rtOk x.f x.b x.path x.like x.marks=false:=hro
   have hz:=hno hro
   refine Aw_st hE [4,6,7,8,9,15] [6] fun K hK=>?_
   simp only [go_sem,seval,hro']
   refine ⟨hln,hK _ (Aw_yes rfl ?_)⟩
   refine Aw_st hE [2,3] [6] fun K hK=>?_
   simp only [go_sem,seval]
   refine hK _ (Aw_ret (hR8 _ (hR7 _ (hR6 _ (hR3 _ (hR2 _ (hR1 _ (hQ _ ?_))))))))
   simp only [go_sem,seval,hz,resT]
  | true =>
   have hro':rtOk x.f x.b x.path x.like x.marks=true:=hro
   obtain ⟨v,hv1,hv2,hv3⟩:=hp0 hro
   have hv4:1≤(rows x.path).length:=by rw [rows_len];omega
   refine Aw_st hE [4,6,7,8,9,15] [6] fun K hK=>?_
   simp only [go_sem,seval,hro']
   refine ⟨hln,hK _ (Aw_no rfl (Aw_skip (hB8 _ ?_)))⟩
   have htl:(tbl (l.take i)).length≤4294967295:=by rw [tbl_len,List.length_take];omega
   have herw:=fun L:List Et=>erows_row L
   apply (fun F0 F1 F2=>Aw_tD hE [([0,1,2,3,4],(.alt 5 (.ref 1) .non)),([0,1,2,3,4,5],(.alt 6 (.ref 2) .non)),([0,1,2,3,4,5,6],(.alt 7 (.alt 8 (.alt 9 (.fst 10 .done) .non) .non) .non))] (.fst 0 (.fst 1 (.fst 3 (.alt 2 (.alt 4 (.ref 0) .non) (.alt 4 (.alt 2 (.ref 0) (.alt 5 (.alt 2 (.ref 1) (.alt 6 (.alt 2 (.ref 2) .non) .non)) .non)) .non))))) [F0,F1,F2] [4,7,8,9] [6])
   ·kernel_rfl
   intro K hK
   refine And.intro ?_ (And.intro ?_ (And.intro ?_ (And.intro ?_ trivial)))
   iterate 3 (focus (simp only [go_sem,seval,hv1,erows_one];repeat' (first | exact (fun _ _ r=>r) | exact LeE_eq (by simp only [go_sem,seval,hv1,erows_one]) (by simp only [go_sem,seval,hv1,erows_one]) | exact LeE_wk (by simp only [go_sem,seval,hv1,erows_one]) (by simp only [go_sem,seval,hv1,erows_one]) | refine And.intro (by first|omega|(and_intros<;>first|omega|exact crows_row _|exact rrows_row _|exact rows_row _|decide|(simp<;>omega))|fail) ?_ | refine And.intro ?_ ?_)))
   simp only [go_sem,seval,hv1,erows_one]
   have he:entOf x=⟨x.f,x.b,v⟩:=by unfold entOf;rw [hv2]
   rw [he] at htk
   refine ⟨⟨herw _,htl⟩,?_⟩
   refine hK _ (hN7 _ (hB6 _ ?_))
   refine Aw_tx hE [4,7,8,9] [6] fun K hK=>?_
   simp only [go_sem,seval]
   repeat refine sd0 ?_
   refine hK _ (hN3 (i + 1) _ ⟨by omega,hst hro⟩ (by omega) ?_)
   simp only [piS]
   rw [htk]
   exact Le_ks [4,7,8,9] []
 ·simp only [dfn] at hc5
  obtain rfl:i=l.length:=by omega
  rw [List.take_length] at hok ⊢
  refine Aw_exit (hX4 _ _ (hX3 _ _ (hE2 _ (hB1 _ ?_))))
  refine Aw_sq fun B10 hB10 hR10 hX10=>?_
  have htl:=tbl_len l
  cases ht:tOk (tbl l) with
  | false =>
   have hz:pTab l=none:=by unfold pTab;rw [hok,ht];rfl
   refine Aw_st hE [4,29] [6] fun K hK=>?_
   simp only [go_sem,seval,ht]
   refine ⟨by omega,hK _ (Aw_yes rfl ?_)⟩
   refine Aw_st hE [2,3] [6] fun K hK=>?_
   simp only [go_sem,seval]
   refine hK _ (Aw_ret (hR10 _ (hQ _ ?_)))
   simp only [go_sem,seval,hz,resT]
  | true =>
   have hz:pTab l=some (tbl l):=by unfold pTab;rw [hok,ht];rfl
   refine Aw_st hE [4,29] [6] fun K hK=>?_
   simp only [go_sem,seval,ht]
   refine ⟨by omega,hK _ (Aw_no rfl (Aw_skip (hB10 _ ?_)))⟩
   refine Aw_st hE [2,3] [6] fun K hK=>?_
   simp only [go_sem,seval]
   refine hK _ (Aw_ret (hQ _ ?_))
   simp only [go_sem,seval,hz,resT]
def gLyTx:List AV→Option (Prop × AV)
 | [.sl _ e1,.sl _ e2]=>(match entsL e1,entsL e2 with
  | some a,some b=>some (a=b∧a.length≤1000000,bv true)
  | _,_=>none)
 | _=>none
def dLyTx:DFn:={ g:=gLyTx }
attribute [go_sem] gLyTx dLyTx
theorem lyTable_ok:Fine Tryz.prog 7 dLyTx.con:=by
 refine fine_det (T:=TT) Tryz.func7 rfl Tryz.ntmps7 (by rw [Tryz.results7]) rfl rfl tt (gs_nil) (ds_nil) ?_
 intro args c r h hc
 simp only [dLyTx,gLyTx] at h
 split at h
 rotate_left
 ·cases h
 split at h
 rotate_left
 ·cases h
 rename_i t1 e1 t2 e2 _ _ l l2 hen1 hen2
 obtain rfl:=entsL_eq hen1
 obtain rfl:=entsL_eq hen2
 obtain ⟨rfl,rfl⟩:=Prod.mk.inj (Option.some.inj h)
 refine ⟨by simp,fun k E hE Q hQ=>?_⟩
 obtain ⟨rfl,hll⟩:=hc
 refine Aw_st hE [0,1] [] fun K hK=>?_
 simp only [go_sem,seval]
 refine hK _ ?_;clear hK K
 refine Aw_sq fun B1 hB1 hR1 hX1=>?_
 refine Aw_st hE [0,1,10] [] fun K hK=>?_
 simp only [go_sem,seval,decide_true,Bool.not_true]
 refine hK _ (Aw_no rfl (Aw_skip (hB1 _ ?_)))
 refine Aw_sq fun B3 hB3 hR3 hX3=>?_
 refine Aw_st hE [0,1,5] [] fun K hK=>?_
 simp only [go_sem,seval]
 refine hK _ ?_;clear hK K
 refine Aw_bk fun B4 hN4 hE4 hR4 hX4=>?_
 refine Aw_lp (fun i:Nat=>⟨26,[(0,.sl none (erows l)),(1,.sl none (erows l)),(5,iv i)],[],k⟩) (fun i=>i≤l.length) (fun i=>l.length - i) 0 (Le_wk (by first | omega | (dsimp only;omega) | (simp only;omega) | (simp;omega)) (by simp only [go_sem,seval];all_goals rfl) (by simp only [go_sem,seval])) (by omega) fun i hi B5 hN5 hR5 hX5=>?_
 refine Aw_sq fun B6 hB6 hR6 hX6=>?_
 refine Aw_st hE [0,1,5,14] [] fun K hK=>?_
 simp only [go_sem,seval]
 refine hK _ (Aw_cond rfl (fun hc7=>?_) (fun hc7=>?_))
 ·simp only [dte] at hc7
  have hil:i < l.length:=by omega
  have hg:=erows_get l i hil
  generalize l[i]=x at hg
  refine Aw_skip (hB6 _ ?_)
  refine Aw_sq fun B8 hB8 hR8 hX8=>?_
  refine Aw_bk fun B9 hN9 hE9 hR9 hX9=>?_
  refine Aw_sd hE [0,1,5,25] [] 6 (by kernel_rfl) fun K hK=>?_
  simp only [go_sem,seval,hg,beq_self_eq_true,Bool.and_self,Bool.not_true]
  refine ⟨by omega,by omega,?_⟩
  refine hK _ (Aw_no rfl (Aw_skip (hN9 _ (hB8 _ ?_))))
  refine Aw_tx hE [0,1,5] [] fun K hK=>?_
  simp only [go_sem,seval]
  repeat refine sd0 ?_
  exact hK _ (hN5 (i + 1) _ (by omega) (by omega) (Le.refl _))
 ·refine Aw_exit (hX6 _ _ (hX5 _ _ (hE4 _ (hB3 _ ?_))))
  refine Aw_st hE [4] [] fun K hK=>?_
  simp only [go_sem,seval]
  refine hK _ (Aw_ret (hQ _ ?_))
  simp only [go_sem,seval]
theorem pTab_some {l:List Rt} {x:List Et} (h:pTab l=some x):x=tbl l∧tOk (tbl l)=true∧∀ r ∈ l,okR r=true:=by
 unfold pTab at h
 split at h
 ·rename_i hc
  rw [Bool.and_eq_true,List.all_eq_true] at hc
  exact ⟨(Option.some.inj h).symm,hc.2,hc.1⟩
 ·cases h
set_option maxHeartbeats 8000000 in
theorem fnPickTable_ok (pb:Addr):Fine Tryz.prog 3 (cLawP pb):=by
 refine fine_of (T:=TT) Tryz.func3 rfl Tryz.ntmps3 (by rw [Tryz.results3]) rfl rfl tt (gs_cons drawPickTable_ok gs_nil) (ds_cons sPickTable_ok (ds_cons (iPickTable_ok pb) (ds_cons lyTable_ok (ds_cons iTableOk_ok ds_nil)) (wp_inh pb))) ?_
 rintro args ⟨bs,hbs,rfl⟩
 refine ⟨by simp,fun k hk E hE Q hQ=>?_⟩
 refine Aw_st hE [0] [] fun K hK=>?_
 simp only [go_sem,seval]
 refine hK _ ?_;clear hK K
 refine Aw_sq fun B1 hB1 hR1 hX1=>?_
 refine Aw_st hE [0,11] [] fun K hK=>?_
 simp only [go_sem,seval]
 refine hK _ (Aw_cond rfl (fun hc2=>?_) (fun hc2=>?_))
 ·refine Aw_st hE [2] [] fun K hK=>?_
  simp only [go_sem,seval]
  refine hK _ (Aw_ret (hR1 _ (hQ _ ?_)))
  simp only [go_sem,seval]
 ·refine Aw_skip (hB1 _ ?_)
  refine Aw_st hE [3] [] fun K hK=>?_
  simp only [go_sem,seval]
  refine ⟨dpt2_pre bs hbs,fun l hl=>?_⟩
  obtain ⟨hll,hls⟩:=hl
  refine hK _ ?_;clear hK K
  cases hd:pTab l with
  | none =>
   have he0:entsL []=some []:=rfl
   refine Aw_st hE [3,4,5] [] fun K hK=>?_
   simp only [go_sem,seval,hd,resT]
   refine ⟨⟨by omega,hls⟩,?_⟩
   refine hK _ ?_;clear hK K
   refine Aw_st hE [3,4,5,6,7] [] fun K hK=>?_
   simp only [go_sem,seval,hd,resT]
   refine ⟨⟨by omega,hls⟩,?_⟩
   refine hK _ ?_;clear hK K
   refine Aw_sq fun B3 hB3 hR3 hX3=>?_
   refine Aw_st hE [3,4,5,6,7,36] [] fun K hK=>?_
   simp only [go_sem,seval,he0,decide_true,and_self,List.length_nil,bne_self_eq_false]
   refine hK _ (Aw_yes rfl ?_)
   refine Aw_st hE [2] [] fun K hK=>?_
   simp only [go_sem,seval,he0,decide_true,and_self,List.length_nil,beq_self_eq_true]
   refine hK _ (Aw_ret (hR3 _ (hQ _ ?_)))
   simp only [go_sem,seval]
  | some x =>
   obtain ⟨rfl,htk,hok⟩:=pTab_some hd
   have htl:=tbl_len l
   refine Aw_st hE [3,4,5] [] fun K hK=>?_
   simp only [go_sem,seval,hd,resT]
   refine ⟨⟨by omega,hls⟩,?_⟩
   refine hK _ ?_;clear hK K
   refine Aw_st hE [3,4,5,6,7] [] fun K hK=>?_
   simp only [go_sem,seval,hd,resT]
   refine ⟨⟨by omega,hls⟩,?_⟩
   refine hK _ ?_;clear hK K
   refine Aw_sq fun B3 hB3 hR3 hX3=>?_
   refine Aw_st hE [3,4,5,6,7,36] [] fun K hK=>?_
   simp only [go_sem,seval,decide_true,and_self,bne_self_eq_false]
   refine ⟨by omega,?_⟩
   refine hK _ (Aw_no rfl (Aw_skip (hB3 _ ?_)))
   refine Aw_sq fun B8 hB8 hR8 hX8=>?_
   refine Aw_st hE [3,6,8] [] fun K hK=>?_
   simp only [go_sem,seval]
   refine hK _ ?_;clear hK K
   refine Aw_bk fun B9 hN9 hE9 hR9 hX9=>?_
   refine Aw_lp (fun i:Nat=>⟨86,[(3,.sl none (rrows l)),(6,.sl none (erows (tbl l))),(8,iv i)],[],k⟩) (fun i=>i≤l.length) (fun i=>l.length - i) 0 (Le.refl _) (by omega) fun i hi B10 hN10 hR10 hX10=>?_
   refine Aw_sq fun B11 hB11 hR11 hX11=>?_
   refine Aw_st hE [3,6,8,48] [] fun K hK=>?_
   simp only [go_sem,seval]
   refine hK _ (Aw_cond rfl (fun hc12=>?_) (fun hc12=>?_))
   ·simp only [dte] at hc12
    have hil:i < l.length:=by omega
    have hg:=rrow_at l i hil
    have hge:=erows_get (tbl l) i (by omega)
    have hei:(tbl l)[i]'(by omega)=entOf l[i]:=by simp [tbl]
    rw [hei] at hge
    obtain ⟨v,hv1,hv2,hv3⟩:=path0 (hok _ (List.getElem_mem hil))
    generalize l[i]=x at hg hge hv1 hv2 hv3
    have hge2:(erows (tbl l))[i]? = some [.v (.int .i64 x.f),.v (.int .i64 x.b),.v (.int .i64 v)]:=by rw [hge,← hv2];rfl
    have hv4:1≤(rows x.path).length:=by rw [rows_len];omega
    refine Aw_skip (hB11 _ ?_)
    refine Aw_sq fun B13 hB13 hR13 hX13=>?_
    refine Aw_bk fun B14 hN14 hE14 hR14 hX14=>?_
    refine Aw_sd hE [3,6,8,76] [] 6 (by kernel_rfl) fun K hK=>?_
    simp only [go_sem,seval,hg,hge2,hv1,beq_self_eq_true,Bool.and_self,Bool.not_true,decide_true,ne_eq,not_true_eq_false,decide_false]
    refine ⟨by omega,by omega,by omega,by omega,?_⟩
    refine hK _ (Aw_no rfl (Aw_skip (hN14 _ (hB13 _ ?_))))
    refine Aw_tx hE [3,6,8] [] fun K hK=>?_
    simp only [go_sem,seval]
    repeat refine sd0 ?_
    exact hK _ (hN10 (i + 1) _ (by omega) (by omega) (Le.refl _))
   ·simp only [dfn] at hc12
    refine Aw_exit (hX11 _ _ (hX10 _ _ (hE9 _ (hB8 _ ?_))))
    have hd1:decide (((tbl l).length:Int)=(l.length:Int))=true:=by rw [htl];exact decide_eq_true rfl
    refine Aw_st hE [2] [] fun K hK=>?_
    simp only [go_sem,seval,hd1,htk]
    refine ⟨by omega,?_⟩
    refine hK _ (Aw_ret (hQ _ ?_))
    simp only [go_sem,seval]
end Go.Proofs.W
end
