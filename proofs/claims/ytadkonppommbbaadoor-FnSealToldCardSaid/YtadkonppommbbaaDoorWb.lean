/- YtadkonppommbbaaDoorWb: part of the proof that laws hold, for every input that the row speaks of (no condition of ours). -/
import Derived.Test.YtadkonppommbbaaDoorWa
import Derived.Test.YtadkonppommbbaaDoorEd
set_option linter.unusedVariables false
set_option linter.unusedSimpArgs false
section
namespace Go.Proofs.W
open Go Go.Eng Go.RowKit
set_option maxRecDepth 100000
structure Sl where
 y:Int
 t:Int
 f:Int
 b:Int
 p:List Int
theorem sl_ext {x z:Sl}:x=z↔(x.y=z.y∧x.t=z.t)∧(x.f=z.f∧x.b=z.b)∧x.p=z.p:=by
 obtain ⟨y,t,f,b,p⟩:=x
 obtain ⟨y',t',f',b',p'⟩:=z
 simp only [Sl.mk.injEq,and_assoc]
instance:DecidableEq Sl:=fun _ _=>decidable_of_iff _ sl_ext.symm
def Sl.row (s:Sl):List DV:=[.v (.int .i64 s.y),.v (.int .i64 s.t),.v (.int .i64 s.f),.v (.int .i64 s.b),.sl (rows s.p)]
def srows (l:List Sl):List (List DV):=l.map Sl.row
def slsL:List (List DV)→Option (List Sl)
 | []=>some []
 | [.v (.int .i64 y),.v (.int .i64 t),.v (.int .i64 f),.v (.int .i64 b),.sl e]::l=>match intsL e,slsL l with
  | some p,some r=>some (⟨y,t,f,b,p⟩::r)
  | _,_=>none
 | _=>none
theorem slsL_rows:∀ l:List Sl,slsL (srows l)=some l
 | []=>rfl
 | e::l=>by
  have:=slsL_rows l
  simp only [srows] at this
  simp only [srows,List.map_cons,Sl.row,slsL,this,intsL_rows]
theorem slsL_eq:∀ {e:List (List DV)} {l:List Sl},slsL e=some l→e=srows l:=by
 intro e
 induction e with
 | nil=>intro l h;obtain rfl:=Option.some.inj h;rfl
 | cons x e ih =>
  intro l h
  unfold slsL at h
  split at h
  ·rename_i h0;cases h0
  ·rename_i y t f b q e' h0
   obtain ⟨rfl,rfl⟩:=List.cons.inj h0
   split at h
   ·rename_i p r hp hr
    obtain rfl:=Option.some.inj h
    rw [ih hr,intsL_eq hp];rfl
   ·cases h
  ·cases h
theorem srows_len (l:List Sl):(srows l).length=l.length:=by simp [srows]
theorem srows_get (l:List Sl) (i:Nat) (h:i < l.length):(srows l)[i]? = some [.v (.int .i64 l[i].y),.v (.int .i64 l[i].t),.v (.int .i64 l[i].f),.v (.int .i64 l[i].b),.sl (rows l[i].p)]:=by simp [srows,h,Sl.row]
theorem srows_app (a b:List Sl):srows a++srows b=srows (a++b):=by simp [srows]
theorem srows_row (l:List Sl):∀ row ∈ srows l,row.length=5:=by simp [srows,Sl.row]
theorem srows_one (y t f b:Int) (p:List Int):[[DV.v (.int .i64 y),.v (.int .i64 t),.v (.int .i64 f),.v (.int .i64 b),.sl (rows p)]]=srows [⟨y,t,f,b,p⟩]:=rfl
theorem srows_nil:srows []=[]:=rfl
structure Hd where
 h:Int
 f:Int
 b:Int
def Hd.row (s:Hd):List DV:=[.v (.int .i64 s.h),.v (.int .i64 s.f),.v (.int .i64 s.b)]
def hrows (l:List Hd):List (List DV):=l.map Hd.row
def hdsL:List (List DV)→Option (List Hd)
 | []=>some []
 | [.v (.int .i64 h),.v (.int .i64 f),.v (.int .i64 b)]::l=>match hdsL l with
  | some r=>some (⟨h,f,b⟩::r)
  | none=>none
 | _=>none
theorem hdsL_rows:∀ l:List Hd,hdsL (hrows l)=some l
 | []=>rfl
 | e::l=>by
  have:=hdsL_rows l
  simp only [hrows] at this
  simp only [hrows,List.map_cons,Hd.row,hdsL,this]
theorem hdsL_eq:∀ {e:List (List DV)} {l:List Hd},hdsL e=some l→e=hrows l:=by
 intro e
 induction e with
 | nil=>intro l h;obtain rfl:=Option.some.inj h;rfl
 | cons x e ih =>
  intro l h
  unfold hdsL at h
  split at h
  ·rename_i h0;cases h0
  ·rename_i a f b e' h0
   obtain ⟨rfl,rfl⟩:=List.cons.inj h0
   split at h
   ·rename_i r hr
    obtain rfl:=Option.some.inj h
    rw [ih hr];rfl
   ·cases h
  ·cases h
theorem hrows_len (l:List Hd):(hrows l).length=l.length:=by simp [hrows]
theorem hrows_get (l:List Hd) (i:Nat) (h:i < l.length):(hrows l)[i]? = some [.v (.int .i64 l[i].h),.v (.int .i64 l[i].f),.v (.int .i64 l[i].b)]:=by simp [hrows,h,Hd.row]
theorem hrows_app (a b:List Hd):hrows a++hrows b=hrows (a++b):=by simp [hrows]
theorem hrows_row (l:List Hd):∀ row ∈ hrows l,row.length=3:=by simp [hrows,Hd.row]
theorem hrows_one (h f b:Int):[[DV.v (.int .i64 h),.v (.int .i64 f),.v (.int .i64 b)]]=hrows [⟨h,f,b⟩]:=rfl
theorem hrows_nil:hrows []=[]:=rfl
attribute [go_sem] slsL_rows srows_len srows_app srows_nil hdsL_rows hrows_len hrows_app hrows_nil
def mkS (f b:Int):Int→List Int→List Sl
 | _,[]=>[]
 | t,h::p=>⟨h,t,f,b,h::p⟩::mkS f b h p
def makeOk (r:Rt) (to:Int):Bool:=okR r && isH to && !r.path.contains to
def sealL (r:Rt) (to:Int):List Sl:=if makeOk r to then mkS r.f r.b to r.path else []
def holdB (H:List Hd) (h f b:Int):Bool:=H.any fun x=>decide (x.h=h) && (rngOk f b && (rngOk x.f x.b && rIn f b x.f x.b))
def lastI (p:List Int):Int:=p.getD (p.length - 1) 0
def lacksF (l:List Sl):List Sl→Int
 | []=>0
 | s::q=>if s ∈ l then lacksF l q else s.y
def lacks (H:List Hd) (l:List Sl) (r:Rt) (to:Int):Int :=
 if makeOk r to then (if holdB H (lastI r.path) r.f r.b then lacksF l (mkS r.f r.b to r.path) else -2 + 1) else -2
theorem mkS_len (f b:Int):∀ (p:List Int) (t:Int),(mkS f b t p).length=p.length
 | [],_=>rfl
 | h::p,t=>by rw [mkS,List.length_cons,mkS_len f b p h,List.length_cons]
theorem mkS_get (f b:Int):∀ (p:List Int) (t:Int) (i:Nat) (h:i < p.length),(mkS f b t p)[i]? = some ⟨p[i],if i=0 then t else p.getD (i - 1) 0,f,b,p.drop i⟩
 | [],_,i,h=>by simp at h
 | x::p,t,0,h=>by simp [mkS]
 | x::p,t,i + 1,h=>by
  rw [mkS,List.getElem?_cons_succ,mkS_get f b p x i (by simpa using h)]
  cases i with
  | zero=>simp
  | succ i=>simp
theorem mkS_mem {f b:Int} {s:Sl}:∀ {p:List Int} {t:Int},s ∈ mkS f b t p→(∀ h ∈ s.p,h ∈ p)∧s.p.length≤p.length
 | h::p,t,hs=>by
  rw [mkS] at hs
  rcases List.mem_cons.1 hs with rfl | hs
  ·exact ⟨fun x hx=>hx,by simp⟩
  ·have:=mkS_mem hs
   exact ⟨fun x hx=>by simp [this.1 x hx],by have:=this.2;simp;omega⟩
theorem lacksF_zero {l:List Sl}:∀ {q:List Sl},(∀ s ∈ q,s.y≠0)→(lacksF l q=0↔∀ s ∈ q,s ∈ l)
 | [],_=>by simp [lacksF]
 | s::q,h=>by
  rw [lacksF]
  have ih:=lacksF_zero (l:=l) (q:=q) fun x hx=>h x (by simp [hx])
  split
  ·rename_i hs
   rw [ih]
   simp [hs]
  ·rename_i hs
   have:=h s (by simp)
   simp [hs,this]
def kb (p:List Int):List UInt8:=(p.map fun h=>Lib.decDigits h.toNat++[45]).flatten
def hOk (p:List Int):Prop:=∀ h ∈ p,isH h=true
theorem kb_inj:∀ {p q:List Int},hOk p→hOk q→kb p=kb q→p=q
 | [],[],_,_,_=>rfl
 | [],x::q,_,hq,h=>by
  have hx:=isH_cases (hq x (by simp))
  simp only [kb,List.map_nil,List.flatten_nil,List.map_cons,List.flatten_cons] at h
  have:=congrArg List.length h
  simp at this
 | x::p,[],hp,_,h=>by
  simp only [kb,List.map_nil,List.flatten_nil,List.map_cons,List.flatten_cons] at h
  have:=congrArg List.length h
  simp at this
 | x::p,z::q,hp,hq,h=>by
  have hx:=isH_cases (hp x (by simp))
  have hz:=isH_cases (hq z (by simp))
  have e1:Lib.decDigits x.toNat=[UInt8.ofNat (48 + x.toNat)]:=Lib.decDigits_one (by omega)
  have e2:Lib.decDigits z.toNat=[UInt8.ofNat (48 + z.toNat)]:=Lib.decDigits_one (by omega)
  simp only [kb,List.map_cons,List.flatten_cons,e1,e2,List.cons_append,List.nil_append,List.cons.injEq,true_and] at h
  have h1:x=z:=by
   have h2:=congrArg UInt8.toNat h.1
   simp only [UInt8.toNat_ofNat'] at h2
   omega
  rw [h1,kb_inj (fun w hw=>hp w (by simp [hw])) (fun w hw=>hq w (by simp [hw])) (show kb p=kb q from h.2)]
def kV (s:Sl):Value:=.agg #[.int .i64 s.y,.int .i64 s.t,.int .i64 s.f,.int .i64 s.b,.string ⟨(kb s.p).toArray⟩]
theorem kV_eq {s r:Sl} (hs:hOk s.p) (hr:hOk r.p):keyEq 2 (kV s) (kV r)=decide (s=r):=by
 show (s.y == r.y && (s.t == r.t && ((s.f == r.f && s.b == r.b) && (kb s.p).toArray.toList == (kb r.p).toArray.toList)))=_
 rw [Bool.eq_iff_iff,dte,sl_ext]
 simp only [Bool.and_eq_true,beq_iff_eq]
 constructor
 ·rintro ⟨h1,h2,⟨h3,h4⟩,h5⟩
  exact ⟨⟨h1,h2⟩,⟨h3,h4⟩,kb_inj hs hr (by simpa using h5)⟩
 ·rintro ⟨⟨h1,h2⟩,⟨h3,h4⟩,h5⟩
  exact ⟨h1,h2,⟨h3,h4⟩,by rw [h5]⟩
def tbS (T:List Sl):List (Value × Value):=T.map fun s=>(kV s,.agg #[])
def addS (T:List Sl) (s:Sl):List Sl:=if s ∈ T then T else T++[s]
def hOkL (T:List Sl):Prop:=∀ s ∈ T,hOk s.p
theorem tbS_ok (T:List Sl):mbK 2 (tbS T)=true:=by
 refine mbK_of fun p hp=>?_
 obtain ⟨s,_,rfl⟩:=List.mem_map.1 hp
 exact ⟨rfl,rfl⟩
theorem mput_tb {s:Sl} (hs:hOk s.p):∀ {T:List Sl},hOkL T→mput 2 (kV s) (.agg #[]) (tbS T)=tbS (addS T s)
 | [],_=>rfl
 | r::T,h=>by
  have hr:=h r (by simp)
  have ih:=mput_tb hs (T:=T) fun x hx=>h x (by simp [hx])
  simp only [tbS,List.map_cons,mput]
  rw [kV_eq hs hr]
  by_cases e:s=r
  ·subst e
   simp [addS]
  ·rw [if_neg (by simpa using e)]
   have e2:addS (r::T) s=r::addS T s:=by
    unfold addS
    by_cases hm:s ∈ T
    ·rw [if_pos hm,if_pos (by simp [hm])]
    ·rw [if_neg hm,if_neg (by simp [hm,e])];rfl
   rw [e2,List.map_cons]
   congr 1
theorem fnd_tb {s:Sl} (hs:hOk s.p):∀ {T:List Sl},hOkL T→fndT 2 (kV s) (tbS T)=if s ∈ T then some (.agg #[]) else none
 | [],_=>rfl
 | r::T,h=>by
  have hr:=h r (by simp)
  have ih:=fnd_tb hs (T:=T) fun x hx=>h x (by simp [hx])
  simp only [tbS,List.map_cons,fndT]
  rw [kV_eq hs hr]
  by_cases e:s=r
  ·subst e;simp
  ·rw [if_neg (by simpa using e)]
   show fndT 2 (kV s) (tbS T)=_
   rw [ih]
   simp [e]
theorem addS_mem {T:List Sl} {s r:Sl}:r ∈ addS T s↔r ∈ T∨r=s:=by
 unfold addS
 split
 ·rename_i h
  constructor
  ·exact .inl
  ·rintro (h1 | rfl)
   ·exact h1
   ·exact h
 ·simp
def keysS (l:List Sl):List Sl:=l.foldl addS []
theorem foldS_mem {r:Sl}:∀ {l T:List Sl},r ∈ l.foldl addS T↔r ∈ T∨r ∈ l
 | [],T=>by simp
 | s::l,T=>by
  rw [List.foldl_cons,foldS_mem,addS_mem]
  simp [or_assoc]
theorem keysS_mem {l:List Sl} {r:Sl}:r ∈ keysS l↔r ∈ l:=by
 unfold keysS;rw [foldS_mem];simp
theorem keysS_step {l:List Sl} {i:Nat} (hi:i < l.length):keysS (l.take (i + 1))=addS (keysS (l.take i)) l[i]:=by
 unfold keysS
 rw [List.take_succ_eq_append_getElem hi,List.foldl_append];rfl
theorem kb_step {p:List Int} {i:Nat} (hi:i < p.length):kb (p.take (i + 1))=kb (p.take i)++(Lib.decDigits (p[i]).toNat++[45]):=by
 unfold kb
 rw [List.take_succ_eq_append_getElem hi,List.map_append,List.flatten_append]
 simp
theorem kb_len:∀ {p:List Int},hOk p→(kb p).length=p.length * 2
 | [],_=>rfl
 | x::p,h=>by
  have hx:=isH_cases (h x (by simp))
  have e1:Lib.decDigits x.toNat=[UInt8.ofNat (48 + x.toNat)]:=Lib.decDigits_one (by omega)
  have ih:=kb_len (p:=p) fun w hw=>h w (by simp [hw])
  show ((Lib.decDigits x.toNat++[45])++kb p).length=_
  rw [List.length_append,ih,e1,List.length_cons]
  simp;omega
def kA (s:Sl):AV:=.agg [iv s.y,iv s.t,iv s.f,iv s.b,.v (.string ⟨(kb s.p).toArray⟩)]
def gKey:List AV→Option (Prop × AV)
 | [.agg [.v (.int .i64 y),.v (.int .i64 t),.v (.int .i64 f),.v (.int .i64 b),.sl _ e]]=>(match intsL e with
  | some p=>some (p.length≤1000∧hOk p,kA ⟨y,t,f,b,p⟩)
  | none=>none)
 | _=>none
def dKey:DFn:={ g:=gKey,inv:=WTab }
attribute [go_sem] gKey dKey
theorem key_ok:Fine Tryd.prog 27 dKey.con:=by
 refine fine_det (T:=TT) Tryd.func27 rfl Tryd.ntmps27 (by rw [Tryd.results27]) rfl rfl tt (gs_nil) (ds_cons itoa_ok ds_nil wtab_inh) ?_
 intro args c r h hc
 simp only [dKey,gKey] at h
 split at h
 rotate_left
 ·cases h
 split at h
 rotate_left
 ·cases h
 rename_i y t f b t1 e _ p hl
 obtain rfl:=intsL_eq hl
 obtain ⟨rfl,rfl⟩:=Prod.mk.inj (Option.some.inj h)
 refine ⟨by simp,fun k E hE Q hQ=>?_⟩
 obtain ⟨hpl,hpo⟩:=hc
 refine Aw_st hE [1,2] [1,2] fun K hK=>?_
 simp only [go_sem,seval]
 refine hK _ ?_;clear hK K
 refine Aw_st hE [1,2,3] [1,2] fun K hK=>?_
 simp only [go_sem,seval]
 refine hK _ ?_;clear hK K
 refine Aw_sq fun B1 hB1 hR1 hX1=>?_
 refine Aw_st hE [1,2,3,7,8,9] [1,2] fun K hK=>?_
 simp only [go_sem,seval]
 refine hK _ ?_;clear hK K
 refine Aw_bk fun B2 hN2 hE2 hR2 hX2=>?_
 refine Aw_lp (fun i:Nat=>⟨27,[(1,.loc 1 0),(2,.loc 2 0),(3,.v (.string ⟨(kb (p.take i)).toArray⟩)),(7,.sl none (rows p)),(8,iv p.length),(9,iv i)],[(1,[iv y,iv t,iv f,iv b,.sl none (rows p)]),(2,[iv 0,iv 0,iv 0,iv 0,.v (.string ⟨#[]⟩)])],k⟩) (fun i=>i≤p.length) (fun i=>p.length - i) 0 (Le_wk (by first | omega | (dsimp only;omega) | (simp only;omega) | (simp;omega)) (by simp only [go_sem,seval];all_goals rfl) (by simp only [go_sem,seval];all_goals rfl)) (by omega) fun i hi B3 hN3 hR3 hX3=>?_
 refine Aw_st hE [1,2,3,7,8,9,10] [1,2] fun K hK=>?_
 simp only [go_sem,seval]
 refine hK _ ?_;clear hK K
 refine Aw_sq fun B4 hB4 hR4 hX4=>?_
 refine Aw_cond rfl (fun hc5=>?_) (fun hc5=>?_)
 ·simp only [dte] at hc5
  have hil:i < p.length:=by omega
  have hg:=rows_get p i hil
  have hgd:p.getD i 0=p[i]:=by simp [List.getD_eq_getElem?_getD,hil]
  rw [hgd] at hg
  have hst:=kb_step hil
  have hx:=isH_cases (hpo _ (List.getElem_mem hil))
  have hlk:(kb (p.take i)).length=(p.take i).length * 2:=kb_len fun h hh=>hpo h (List.mem_of_mem_take hh)
  rw [List.length_take] at hlk
  have hdl:=dec_len (p[i]).toNat (by omega)
  generalize p[i]=x at hg hst hx hdl
  refine Aw_skip (hB4 _ ?_)
  refine Aw_sq fun B6 hB6 hR6 hX6=>?_
  refine Aw_bk fun B7 hN7 hE7 hR7 hX7=>?_
  refine Aw_st hE [1,2,3,5,7,8,9] [1,2] fun K hK=>?_
  simp only [go_sem,seval,hg]
  repeat refine sd0 ?_
  refine hK _ ?_;clear hK K
  refine Aw_tx hE [1,2,3,7,8,9] [1,2] fun K hK=>?_
  simp only [go_sem,seval]
  have hstr:(ByteArray.mk (kb (p.take i)).toArray++(ByteArray.mk (Lib.decDigits x.toNat).toArray++ByteArray.mk #[45]))=⟨(kb (p.take (i + 1))).toArray⟩:=by
   rw [show (ByteArray.mk #[45])=⟨([45]:List UInt8).toArray⟩ from rfl,mk_app,mk_app,hst]
  rw [hstr]
  refine ⟨by omega,by omega,by omega,?_⟩
  refine hK _ (hN7 _ (hB6 _ ?_))
  refine Aw_tx hE [1,2,3,7,8,9] [1,2] fun K hK=>?_
  simp only [go_sem,seval]
  repeat refine sd0 ?_
  exact hK _ (hN3 (i + 1) _ (by omega) (by omega) (Le.refl _))
 ·simp only [dfn] at hc5
  obtain rfl:i=p.length:=by omega
  rw [List.take_length]
  refine Aw_exit (hX4 _ _ (hX3 _ _ (hE2 _ (hB1 _ ?_))))
  refine Aw_st hE [2] [1,2] fun K hK=>?_
  simp only [go_sem,seval]
  refine hK _ (Aw_ret (hQ _ ?_))
  simp only [go_sem,seval]
  rfl
theorem sls_tb_inj:∀ {T T':List Sl},hOkL T→hOkL T'→tbS T=tbS T'→T=T'
 | [],[],_,_,_=>rfl
 | [],_::_,_,_,h=>by cases h
 | _::_,[],_,_,h=>by cases h
 | s::T,r::T',h1,h2,h=>by
  simp only [tbS,List.map_cons,List.cons.injEq,Prod.mk.injEq,and_true] at h
  have hk:keyEq 2 (kV s) (kV r)=true:=by
   rw [h.1,kV_eq (h2 r (by simp)) (h2 r (by simp))];simp
  rw [kV_eq (h1 s (by simp)) (h2 r (by simp)),dte] at hk
  rw [hk,sls_tb_inj (fun x hx=>h1 x (by simp [hx])) (fun x hx=>h2 x (by simp [hx])) h.2]
theorem kA_inj {s r:Sl} (hs:hOk s.p) (hr:hOk r.p) (h:kA s=kA r):s=r:=by
 simp only [kA,AV.agg.injEq,List.cons.injEq,AV.v.injEq,Value.int.injEq,Value.string.injEq,true_and,and_true] at h
 obtain ⟨h1,h2,h3,h4,h5⟩:=h
 have h6:(kb s.p).toArray=(kb r.p).toArray:=congrArg ByteArray.data h5
 exact sl_ext.2 ⟨⟨h1,h2⟩,⟨h3,h4⟩,kb_inj hs hr (by simpa using h6)⟩
def cAdd:ConM:={
 pre:=fun args m1=>∃ (T:List Sl) (s:Sl),args=[.mr 2000,kA s]∧m1=[(2000,[.mb (tbS T)])]∧hOkL T∧hOk s.p
 post:=fun args m1 _ m2=>∀ (T:List Sl) (s:Sl),args=[.mr 2000,kA s]→m1=[(2000,[.mb (tbS T)])]→hOkL T→hOk s.p→m2=[(2000,[.mb (tbS (addS T s))])] }
theorem add_ok:FineM Tryd.prog 48 cAdd:=by
 refine fineM_ofN [] ms_nil [] mm_nil [] [] ex_nil (T:=TT) Tryd.func48 rfl Tryd.ntmps48 (by rw [Tryd.results48]) rfl rfl tt gs_nil ds_nil ?_
 rintro args m1 ⟨T,s,rfl,rfl,hT,hs⟩
 refine ⟨by simp,fun E hE Q hQ=>?_⟩
 have hm:=mput_tb hs hT
 have htb:=tbS_ok T
 simp only [kA,kV] at hm ⊢
 refine Aw_st hE [0,3] [3,2000] fun K hK=>?_
 simp only [go_sem,seval]
 refine hK _ ?_;clear hK K
 refine Aw_tx hE [] [2000] fun K hK=>?_
 simp only [go_sem,seval,hm]
 refine ⟨htb,hK _ (hQ _ _ ?_)⟩
 simp only [go_sem,seval]
 intro T' s' h1 h2 h3 h4
 simp only [List.cons.injEq,and_true,true_and,Prod.mk.injEq,AV.mb.injEq] at h1 h2
 obtain rfl:=sls_tb_inj hT h3 h2
 obtain rfl:=kA_inj hs h4 h1
 rfl
def gHasS:List AV→Option (Prop × AV)
 | [.dv (.mp t),.agg [.v (.int .i64 y),.v (.int .i64 u),.v (.int .i64 f),.v (.int .i64 b),.v (.string s)]]=>some (mbK 2 t=true,bv (fndT 2 (.agg #[.int .i64 y,.int .i64 u,.int .i64 f,.int .i64 b,.string s]) t).isSome)
 | _=>none
def dHasS:DFn:={ g:=gHasS }
attribute [go_sem] gHasS dHasS
theorem hasS_ok:Fine Tryd.prog 26 dHasS.con:=by
 refine fine_det (T:=TT) Tryd.func26 rfl Tryd.ntmps26 (by rw [Tryd.results26]) rfl rfl tt (gs_nil) (ds_nil) ?_
 intro args c r h hc
 simp only [dHasS,gHasS] at h
 split at h
 rotate_left
 ·cases h
 obtain ⟨rfl,rfl⟩:=Prod.mk.inj (Option.some.inj h)
 refine ⟨by simp,fun k E hE Q hQ=>?_⟩
 rename_i t y u f b s
 refine Aw_st hE [0,3] [3,5] fun K hK=>?_
 simp only [go_sem,seval]
 refine hK _ ?_;clear hK K
 have hc2:(t.all fun p=>isKey 2 p.fst && unitB p.snd)=true:=hc
 cases hf:fndT 2 (.agg #[.int .i64 y,.int .i64 u,.int .i64 f,.int .i64 b,.string s]) t with
 | none =>
  refine Aw_st hE [6] [3,5] fun K hK=>?_
  simp only [go_sem,seval,hf]
  refine ⟨hc2,?_⟩
  refine hK _ ?_;clear hK K
  refine Aw_st hE [4] [3,5] fun K hK=>?_
  simp only [go_sem,seval]
  refine hK _ (Aw_ret (hQ _ ?_))
  simp only [go_sem,seval,hf]
  rfl
 | some v =>
  refine Aw_st hE [6] [3,5] fun K hK=>?_
  simp only [go_sem,seval,hf]
  refine ⟨hc2,?_⟩
  refine hK _ ?_;clear hK K
  refine Aw_st hE [4] [3,5] fun K hK=>?_
  simp only [go_sem,seval]
  refine hK _ (Aw_ret (hQ _ ?_))
  simp only [go_sem,seval,hf]
  rfl
def sOkL (l:List Sl):Prop:=∀ s ∈ l,s.p.length≤1000∧hOk s.p
def gKeys:List AV→Option (Prop × AV)
 | [.sl _ els]=>(match slsL els with
  | some l=>some (l.length≤1000000∧sOkL l,.dv (.mp (tbS (keysS l))))
  | none=>none)
 | _=>none
def dKeys:DFn:={ g:=gKeys,inv:=WTab }
attribute [go_sem] gKeys dKeys
theorem keysOf_ok:Fine Tryd.prog 25 dKeys.con:=by
 refine fine_detX [] gl_nil [] ms_nil [(48,(cAdd,[],[]))] (mm_cons add_ok (by decide) mm_nil) [] [] ex_nil (T:=TT) Tryd.func25 rfl Tryd.ntmps25 (by rw [Tryd.results25]) rfl rfl tt gs_nil (ds_cons key_ok ds_nil wtab_inh) ?_
 intro args c r h hc
 simp only [dKeys,gKeys] at h
 split at h
 rotate_left
 ·cases h
 split at h
 rotate_left
 ·cases h
 rename_i t els _ l hsl
 obtain rfl:=slsL_eq hsl
 obtain ⟨rfl,rfl⟩:=Prod.mk.inj (Option.some.inj h)
 refine ⟨by simp,fun k E hE Q hQ=>?_⟩
 obtain ⟨hl,hs⟩:=hc
 refine Aw_st hE [0] [5,926] fun K hK=>?_
 simp only [go_sem,seval]
 refine hK _ ?_;clear hK K
 refine Aw_st hE [0,3] [5,926] fun K hK=>?_
 simp only [go_sem,seval]
 refine hK _ ?_;clear hK K
 refine Aw_sq fun B1 hB1 hR1 hX1=>?_
 refine Aw_st hE [3,7,8,9] [5,926] fun K hK=>?_
 simp only [go_sem,seval]
 refine hK _ ?_;clear hK K
 refine Aw_bk fun B2 hN2 hE2 hR2 hX2=>?_
 refine Aw_lp (fun i:Nat=>⟨19,[(3,.mr 926),(7,.sl none (srows l)),(8,iv l.length),(9,iv i)],[(926,[.mb (tbS (keysS (l.take i)))])],k⟩) (fun i=>i≤l.length) (fun i=>l.length - i) 0 (Le_wk (by first | omega | (dsimp only;omega) | (simp only;omega) | (simp;omega)) (by simp only [go_sem,seval];all_goals rfl) (by simp only [go_sem,seval];all_goals rfl)) (by omega) fun i hi B3 hN3 hR3 hX3=>?_
 refine Aw_st hE [3,7,8,9,10] [5,926] fun K hK=>?_
 simp only [go_sem,seval]
 refine hK _ ?_;clear hK K
 refine Aw_sq fun B4 hB4 hR4 hX4=>?_
 refine Aw_cond rfl (fun hc5=>?_) (fun hc5=>?_)
 ·simp only [dte] at hc5
  have hil:i < l.length:=by omega
  have hg:=srows_get l i hil
  obtain ⟨hsp,hso⟩:=hs _ (List.getElem_mem hil)
  have hst:=keysS_step hil
  have hko:hOkL (keysS (l.take i)):=fun s h=>(hs s (List.mem_of_mem_take (keysS_mem.1 h))).2
  generalize l[i]=x at hg hsp hso hst
  refine Aw_skip (hB4 _ ?_)
  refine Aw_sq fun B6 hB6 hR6 hX6=>?_
  refine Aw_bk fun B7 hN7 hE7 hR7 hX7=>?_
  refine Aw_st hE [3,5,7,8,9] [5,926] fun K hK=>?_
  simp only [go_sem,seval,hg]
  repeat refine sd0 ?_
  refine hK _ ?_;clear hK K
  refine Aw_tx hE [3,7,8,9] [5,926] fun K hK=>?_
  simp only [go_sem,seval,kA]
  refine ⟨⟨hsp,hso⟩,by decide,⟨_,x,rfl,rfl,hko,hso⟩,fun r m2 hp=>?_⟩
  obtain rfl:=hp _ x rfl rfl hko hso
  simp only [go_sem,seval]
  rw [← hst]
  refine hK _ (hN7 _ (hB6 _ ?_))
  refine Aw_tx hE [3,7,8,9] [5,926] fun K hK=>?_
  simp only [go_sem,seval]
  repeat refine sd0 ?_
  refine hK _ (hN3 (i + 1) _ (by omega) (by omega) (Le_wk (Nat.le_refl _) ⟨rfl,rfl,rfl,rfl,trivial⟩ ⟨⟨rfl,trivial⟩,trivial⟩))
 ·simp only [dfn] at hc5
  obtain rfl:i=l.length:=by omega
  rw [List.take_length]
  refine Aw_exit (hX4 _ _ (hX3 _ _ (hE2 _ (hB1 _ ?_))))
  refine Aw_st hE [2] [5,926] fun K hK=>?_
  simp only [go_sem,seval]
  refine hK _ ?_
  refine Aw_frzM hE 926 rfl rfl ?_
  simp only [go_sem,seval]
  refine Aw_ret (hQ _ ?_)
  simp only [go_sem,seval]
def gHo1:List AV→Option (Prop × AV)
 | [.agg [.v (.int .i64 h),.v (.int .i64 f),.v (.int .i64 b)],.el [.v (.int .i64 h')],.el [.v (.int .i64 f'),.v (.int .i64 b')]]=>some (True,bv (decide (h=h') && (rngOk f' b' && (rngOk f b && rIn f' b' f b))))
 | _=>none
def dHo1:DFn:={ g:=gHo1 }
attribute [go_sem] gHo1 dHo1
theorem ho1_ok:Fine Tryd.prog 46 dHo1.con:=by
 refine fine_det (T:=TT) Tryd.func46 rfl Tryd.ntmps46 (by rw [Tryd.results46]) rfl rfl tt (gs_nil) (ds_cons iRIn_ok ds_nil) ?_
 intro args c r h hc
 simp only [dHo1,gHo1] at h
 split at h
 rotate_left
 ·cases h
 obtain ⟨rfl,rfl⟩:=Prod.mk.inj (Option.some.inj h)
 refine ⟨by simp,fun k E hE Q hQ=>?_⟩
 rename_i ho f b hq f' b'
 refine Aw_st hE [1,2,3] [3] fun K hK=>?_
 simp only [go_sem,seval]
 refine hK _ ?_;clear hK K
 by_cases hh:ho=hq
 ·have d1:decide (ho=hq)=true:=decide_eq_true hh
  refine Aw_st hE [4] [3] fun K hK=>?_
  simp only [go_sem,seval,d1]
  refine hK _ (Aw_ret (hQ _ ?_))
  simp only [go_sem,seval,d1,Bool.true_and]
 ·have d1:decide (ho=hq)=false:=decide_eq_false hh
  refine Aw_st hE [4] [3] fun K hK=>?_
  simp only [go_sem,seval,d1]
  refine hK _ (Aw_ret (hQ _ ?_))
  simp only [go_sem,seval,d1,Bool.false_and]
abbrev cloH (h f b:Int):AV:=.dv (.fn 46 [.ptr [.v (.int .i64 h)],.ptr [.v (.int .i64 f),.v (.int .i64 b)]])
def hB (h f b:Int) (x:Hd):Bool:=decide (x.h=h) && (rngOk f b && (rngOk x.f x.b && rIn f b x.f x.b))
def gIdH:List AV→Option (Prop × AV)
 | [.sl _ els,.dv (.fn 46 [.ptr [.v (.int .i64 h)],.ptr [.v (.int .i64 f),.v (.int .i64 b)]])]=>(match hdsL els with
  | some l=>some (l.length≤1000000,iv (idxB (hB h f b) l 0))
  | none=>none)
 | _=>none
def dIdH:DFn:={ g:=gIdH }
def gCtH:List AV→Option (Prop × AV)
 | [.sl _ els,.dv (.fn 46 [.ptr [.v (.int .i64 h)],.ptr [.v (.int .i64 f),.v (.int .i64 b)]])]=>(match hdsL els with
  | some l=>some (l.length≤1000000,bv (holdB l h f b))
  | none=>none)
 | _=>none
def dCtH:DFn:={ g:=gCtH }
def gHoH:List AV→Option (Prop × AV)
 | [.sl _ els,.v (.int .i64 h),.agg [.v (.int .i64 f),.v (.int .i64 b)]]=>(match hdsL els with
  | some l=>some (l.length≤1000000,bv (holdB l h f b))
  | none=>none)
 | _=>none
def dHoH:DFn:={ g:=gHoH }
attribute [go_sem] gIdH dIdH gCtH dCtH gHoH dHoH
theorem idH_ok:Fine Tryd.prog 60 dIdH.con:=by
 refine fine_det (T:=TT) Tryd.func60 rfl Tryd.ntmps60 (by rw [Tryd.results60]) rfl rfl tt gs_nil (ds_cons ho1_ok ds_nil) ?_
 intro args c r h hc
 simp only [dIdH,gIdH] at h
 split at h
 rotate_left
 ·cases h
 split at h
 rotate_left
 ·cases h
 rename_i t els ho f b _ l hds
 obtain rfl:=hdsL_eq hds
 obtain ⟨rfl,rfl⟩:=Prod.mk.inj (Option.some.inj h)
 refine ⟨by simp,fun k E hE Q hQ=>?_⟩
 refine Aw_st hE [0,1] [] fun K hK=>?_
 simp only [go_sem,seval]
 repeat refine sd0 ?_
 refine hK _ ?_;clear hK K
 refine Aw_sq fun B1 hB1 hR1 hX1=>?_
 refine Aw_st hE [0,1,7,8] [] fun K hK=>?_
 simp only [go_sem,seval]
 repeat refine sd0 ?_
 refine hK _ ?_;clear hK K
 refine Aw_bk fun B2 hN2 hE2 hR2 hX2=>?_
 refine Aw_lp (fun i:Nat=>⟨19,[(0,.sl t (hrows l)),(1,cloH ho f b),(7,iv l.length),(8,iv i)],[],k⟩) (fun i:Nat=>i≤l.length∧idxB (hB ho f b) l 0=idxB (hB ho f b) (l.drop i) i) (fun i:Nat=>l.length - i) (0) (Le.refl _) (⟨by omega,rfl⟩) fun i hi B3 hN3 hR3 hX3=>?_
 refine Aw_st hE [0,1,7,8,9] [] fun K hK=>?_
 simp only [go_sem,seval]
 repeat refine sd0 ?_
 refine hK _ ?_;clear hK K
 refine Aw_sq fun B4 hB4 hR4 hX4=>?_
 refine Aw_cond rfl (fun hc5=>?_) (fun hc5=>?_)
 ·simp only [dte] at hc5
  have hil:i < l.length:=by omega
  have hs:=hi.2.trans (idxB_drop hil)
  have hget:=hrows_get l i hil
  generalize l[i]=x at hget hs
  obtain ⟨xh,xf,xb⟩:=x
  refine Aw_skip (hB4 _ ?_)
  refine Aw_sq fun B6 hB6 hR6 hX6=>?_
  refine Aw_bk fun B7 hN7 hE7 hR7 hX7=>?_
  refine Aw_st hE [0,1,5,7,8] [] fun K hK=>?_
  simp only [go_sem,seval]
  repeat refine sd0 ?_
  refine hK _ ?_;clear hK K
  refine Aw_st hE [0,1,5,7,8,16] [] fun K hK=>?_
  simp only [go_sem,seval,hget]
  repeat refine sd0 ?_
  refine hK _ (Aw_cond rfl (fun hc8=>?_) (fun hc8=>?_))
  ·have hsr:hB ho f b ⟨xh,xf,xb⟩=true:=hc8
   rw [hsr] at hs
   refine Aw_st hE [4] [] fun K hK=>?_
   simp only [go_sem,seval]
   repeat refine sd0 ?_
   refine hK _ (Aw_ret (hR7 _ (hR6 _ (hR3 _ (hR2 _ (hR1 _ (hQ _ ?_)))))))
   simp only [go_sem,seval,hs]
  ·have hsr:hB ho f b ⟨xh,xf,xb⟩=false:=hc8
   rw [hsr] at hs
   refine Aw_skip (hN7 _ (hB6 _ ?_))
   refine Aw_tx hE [0,1,7,8] [] fun K hK=>?_
   simp only [go_sem,seval]
   repeat refine sd0 ?_
   refine hK _ (hN3 (i + 1) _ (⟨by omega,hs⟩) (by omega) (Le.refl _))
 ·simp only [dfn] at hc5
  refine Aw_exit (hX4 _ _ (hX3 _ _ (hE2 _ (hB1 _ ?_))))
  refine Aw_st hE [4] [] fun K hK=>?_
  simp only [go_sem,seval]
  repeat refine sd0 ?_
  refine hK _ (Aw_ret (hQ _ ?_))
  simp only [go_sem,seval]
  rw [hi.2,List.drop_eq_nil_of_le (by omega)]
  rfl
theorem ctH_ok:Fine Tryd.prog 45 dCtH.con:=by
 refine fine_det (T:=TT) Tryd.func45 rfl Tryd.ntmps45 (by rw [Tryd.results45]) rfl rfl tt gs_nil (ds_cons idH_ok ds_nil) ?_
 intro args c r h hc
 simp only [dCtH,gCtH] at h
 split at h
 rotate_left
 ·cases h
 split at h
 rotate_left
 ·cases h
 rename_i t els ho f b _ l hds
 obtain rfl:=hdsL_eq hds
 obtain ⟨rfl,rfl⟩:=Prod.mk.inj (Option.some.inj h)
 refine ⟨by simp,fun k E hE Q hQ=>?_⟩
 refine Aw_st hE [0,1] [] fun K hK=>?_
 simp only [go_sem,seval]
 repeat refine sd0 ?_
 refine hK _ ?_;clear hK K
 refine Aw_st hE [4] [] fun K hK=>?_
 simp only [go_sem,seval]
 repeat refine sd0 ?_
 refine hK _ (Aw_ret (hQ _ ?_))
 simp only [go_sem,seval]
 exact idxB_any l 0
theorem holdHas_ok:Fine Tryd.prog 24 dHoH.con:=by
 refine fine_det (T:=TT) Tryd.func24 rfl Tryd.ntmps24 (by rw [Tryd.results24]) rfl rfl tt gs_nil (ds_cons ctH_ok ds_nil) ?_
 intro args c r h hc
 simp only [dHoH,gHoH] at h
 split at h
 rotate_left
 ·cases h
 split at h
 rotate_left
 ·cases h
 rename_i t els ho f b _ l hds
 obtain rfl:=hdsL_eq hds
 obtain ⟨rfl,rfl⟩:=Prod.mk.inj (Option.some.inj h)
 refine ⟨by simp,fun k E hE Q hQ=>?_⟩
 refine Aw_st hE [0,4,5] [4,5] fun K hK=>?_
 simp only [go_sem,seval]
 refine hK _ ?_;clear hK K
 refine Aw_st hE [6] [4,5] fun K hK=>?_
 simp only [go_sem,seval]
 refine ⟨hc,?_⟩
 refine hK _ (Aw_ret (hQ _ ?_))
 simp only [go_sem,seval]
theorem Le_kS {st:St} (Ls Lm:List Nat):Le st (st.keep Ls Lm) :=
 Le_of (fun x=>by rw [lk_kps];split;exact .inl rfl;exact .inr rfl) (fun k ls hk=>lkm_kpm k _ Lm ls hk)
def gMake:List AV→Option (Prop × AV)
 | [.agg [.v (.int .i64 rf),.v (.int .i64 rb),.sl _ e1,.v (.int .i64 rk),.sl _ e2],.v (.int .i64 to)]=>(match intsL e1,intsL e2 with
  | some p,some m=>some (p.length≤1000∧m.length≤1000,.sl none (srows (sealL ⟨rf,rb,p,rk,m⟩ to)))
  | _,_=>none)
 | _=>none
def dMake:DFn:={ g:=gMake }
def dMakeI (pb:Addr):DFn:={ g:=gMake,inv:=WP pb }
attribute [go_sem] gMake dMake dMakeI
def prevI (to:Int) (p:List Int) (i:Nat):Int:=if i=0 then to else p.getD (i - 1) 0
theorem mkS_take {f b to:Int} {p:List Int} {i:Nat} (hi:i < p.length):(mkS f b to p).take (i + 1)=(mkS f b to p).take i++[⟨p[i],prevI to p i,f,b,p.drop i⟩]:=by
 have hl:=mkS_len f b p to
 have hg:=mkS_get f b p to i hi
 rw [List.take_succ_eq_append_getElem (by omega)]
 congr 2
 rw [List.getElem?_eq_getElem (by omega)] at hg
 exact Option.some.inj hg
def smS (f b to:Int) (p:List Int) (k0:Int) (m:List Int) (k i:Nat):St:=⟨46,[(1,iv (prevI to p i)),(2,.loc 2 0),(5,.sl (some (42,0,37)) (srows ((mkS f b to p).take i))),(23,.sl none (rows p)),(24,iv p.length),(25,iv i)],[(2,[iv f,iv b,.sl none (rows p),iv k0,.sl none (rows m)])],k⟩
set_option maxHeartbeats 4000000 in
theorem iMake_ok (pb:Addr):Fine Tryd.prog 23 (dMakeI pb).con:=by
 refine fine_det (T:=TT) Tryd.func23 rfl Tryd.ntmps23 (by rw [Tryd.results23]) rfl rfl tt gs_nil (ds_cons (iRtOk_ok pb) (ds_cons iIsH_ok (ds_cons (iPHas_ok pb) (ds_cons cloneD_ok ds_nil) (wp_inh pb))) (wp_inh pb)) ?_
 intro args c r h hc
 simp only [dMakeI,gMake] at h
 split at h
 rotate_left
 ·cases h
 split at h
 rotate_left
 ·cases h
 rename_i rf rb t1 e1 rk t2 e2 to _ _ p m hl1 hl2
 obtain rfl:=intsL_eq hl1
 obtain rfl:=intsL_eq hl2
 obtain ⟨rfl,rfl⟩:=Prod.mk.inj (Option.some.inj h)
 refine ⟨by simp,fun k E hE Q hQ=>?_⟩
 obtain ⟨hpl,hml⟩:=hc
 have hln:p.length≤4294967296∧m.length≤4294967296:=by omega
 have hp4:p.length≤4294967296:=hln.1
 refine Aw_st hE [1,2] [2] fun K hK=>?_
 simp only [go_sem,seval]
 refine hK _ ?_;clear hK K
 refine Aw_sq fun B1 hB1 hR1 hX1=>?_
 cases hro:rtOk rf rb p rk m with
 | false =>
  have hz:sealL ⟨rf,rb,p,rk,m⟩ to=[]:=by unfold sealL makeOk;rw [show okR ⟨rf,rb,p,rk,m⟩=false from hro];rfl
  refine Aw_st hE [1,2,21] [2] fun K hK=>?_
  simp only [go_sem,seval,hro]
  refine ⟨hln,hK _ (Aw_yes rfl ?_)⟩
  refine Aw_st hE [4] [2] fun K hK=>?_
  simp only [go_sem,seval]
  refine hK _ (Aw_ret (hR1 _ (hQ _ ?_)))
  simp only [go_sem,seval,hz]
 | true =>
 have hok:okR ⟨rf,rb,p,rk,m⟩=true:=hro
 obtain ⟨hq1,hq2,hq3,_⟩:=okR_parts hok
 simp only at hq2 hq3
 cases hih:isH to with
 | false =>
  have hz:sealL ⟨rf,rb,p,rk,m⟩ to=[]:=by unfold sealL makeOk;rw [hih,Bool.and_false,Bool.false_and];rfl
  refine Aw_st hE [1,2,21] [2] fun K hK=>?_
  simp only [go_sem,seval,hro,hih]
  refine ⟨hln,hK _ (Aw_yes rfl ?_)⟩
  refine Aw_st hE [4] [2] fun K hK=>?_
  simp only [go_sem,seval]
  refine hK _ (Aw_ret (hR1 _ (hQ _ ?_)))
  simp only [go_sem,seval,hz]
 | true =>
 cases hct:p.contains to with
 | true =>
  have hz:sealL ⟨rf,rb,p,rk,m⟩ to=[]:=by unfold sealL makeOk;rw [show (⟨rf,rb,p,rk,m⟩:Rt).path.contains to=true from hct,Bool.not_true,Bool.and_false];rfl
  refine Aw_st hE [1,2,21] [2] fun K hK=>?_
  simp only [go_sem,seval,hro,hih,hct,hq3,Bool.and_self,Bool.and_true]
  refine ⟨hln,hp4,hK _ (Aw_yes rfl ?_)⟩
  refine Aw_st hE [4] [2] fun K hK=>?_
  simp only [go_sem,seval]
  refine hK _ (Aw_ret (hR1 _ (hQ _ ?_)))
  simp only [go_sem,seval,hz]
 | false =>
 have hz:sealL ⟨rf,rb,p,rk,m⟩ to=mkS rf rb to p:=by unfold sealL makeOk;rw [hok,hih,show (⟨rf,rb,p,rk,m⟩:Rt).path.contains to=false from hct];rfl
 refine Aw_st hE [1,2,21] [2] fun K hK=>?_
 simp only [go_sem,seval,hro,hih,hct,hq3,Bool.and_self,Bool.and_true,Bool.and_false]
 refine ⟨hln,hp4,hK _ (Aw_no rfl (Aw_skip (hB1 _ ?_)))⟩
 refine Aw_st hE [1,2,5] [2] fun K hK=>?_
 simp only [go_sem,seval]
 refine hK _ ?_;clear hK K
 refine Aw_sq fun B3 hB3 hR3 hX3=>?_
 refine Aw_st hE [1,2,5,23,24,25] [2] fun K hK=>?_
 simp only [go_sem,seval]
 refine hK _ ?_;clear hK K
 refine Aw_bk fun B4 hN4 hE4 hR4 hX4=>?_
 refine Aw_lp (fun i:Nat=>smS rf rb to p rk m k i) (fun i=>i≤p.length) (fun i=>p.length - i) 0 ((Le_own 42 37 5 rfl).trans (Le_wk (Nat.le_refl _) (by simp only [go_sem,seval];all_goals rfl) (by simp only [go_sem,seval];all_goals rfl))) (by omega) fun i hi B5 hN5 hR5 hX5=>?_
 simp only [smS]
 refine Aw_st hE [1,2,5,23,24,25,26] [2] fun K hK=>?_
 simp only [go_sem,seval]
 refine hK _ ?_;clear hK K
 refine Aw_sq fun B6 hB6 hR6 hX6=>?_
 refine Aw_cond rfl (fun hc7=>?_) (fun hc7=>?_)
 ·simp only [dte] at hc7
  have hil:i < p.length:=by omega
  have hg:=rows_get p i hil
  have hgd:p.getD i 0=p[i]:=by simp [List.getD_eq_getElem?_getD,hil]
  have htk:=mkS_take (f:=rf) (b:=rb) (to:=to) hil
  have hpv:prevI to p (i + 1)=p[i]:=by unfold prevI;rw [if_neg (by omega),Nat.add_sub_cancel,hgd]
  rw [hgd] at hg
  have htl:((mkS rf rb to p).take i).length≤i:=by rw [List.length_take];omega
  generalize p[i]=x at hg htk hpv
  refine Aw_skip (hB6 _ ?_)
  refine Aw_sq fun B8 hB8 hR8 hX8=>?_
  refine Aw_bk fun B9 hN9 hE9 hR9 hX9=>?_
  refine Aw_st hE [1,2,5,6,7,23,24,25] [2] fun K hK=>?_
  simp only [go_sem,seval,hg]
  repeat refine sd0 ?_
  refine hK _ ?_;clear hK K
  apply (fun F0 F1 F2=>Aw_sD hE [([0,1,2,3,4,5,6,7],(.alt 8 (.ref 1) .non)),([0,1,2,3,4,5,6,7,8],(.alt 9 (.ref 2) .non)),([0,1,2,3,4,5,6,7,8,9],(.alt 10 (.alt 11 (.alt 12 (.fst 13 .done) .non) .non) .non))] (.fst 0 (.fst 1 (.fst 2 (.fst 3 (.fst 5 (.fst 7 (.alt 4 (.alt 6 (.ref 0) .non) (.alt 6 (.alt 4 (.ref 0) (.alt 8 (.alt 4 (.ref 1) (.alt 9 (.alt 4 (.ref 2) .non) .non)) .non)) .non)))))))) [F0,F1,F2] [2,5,7,23,24,25] [2])
  ·kernel_rfl
  intro K hK
  refine And.intro ?_ (And.intro ?_ (And.intro ?_ (And.intro ?_ trivial)))
  iterate 3 (focus (simp only [go_sem,seval,srows_one,List.take_length];repeat' (first | exact (fun _ _ r=>r) | exact LeE_eq (by simp only [go_sem,seval,srows_one,List.take_length]) (by simp only [go_sem,seval,srows_one,List.take_length]) | exact LeE_wk (by simp only [go_sem,seval,srows_one,List.take_length]) (by simp only [go_sem,seval,srows_one,List.take_length]) | refine And.intro (by first|omega|(and_intros<;>first|omega|exact crows_row _|exact rrows_row _|exact rows_row _|decide|(simp<;>omega))|fail) ?_ | refine And.intro ?_ ?_)))
  simp only [go_sem,seval,srows_one,List.take_length]
  refine ⟨⟨srows_row _,by omega⟩,?_⟩
  rw [← htk]
  refine hK _ ?_;clear hK K
  refine Aw_tx hE [1,2,5,23,24,25] [2] fun K hK=>?_
  simp only [go_sem,seval]
  refine hK _ (hN9 _ (hB8 _ ?_))
  refine Aw_tx hE [1,2,5,23,24,25] [2] fun K hK=>?_
  simp only [go_sem,seval]
  repeat refine sd0 ?_
  refine hK _ (hN5 (i + 1) _ (by omega) (by omega) ?_)
  simp only [smS]
  rw [hpv]
  exact Le_kS [1,2,5,23,24,25] [2]
 ·simp only [dfn] at hc7
  obtain rfl:i=p.length:=by omega
  have htk:(mkS rf rb to p).take p.length=mkS rf rb to p:=List.take_of_length_le (by rw [mkS_len];omega)
  rw [htk]
  refine Aw_exit (hX6 _ _ (hX5 _ _ (hE4 _ (hB3 _ ?_))))
  refine Aw_st hE [4] [2] fun K hK=>?_
  simp only [go_sem,seval]
  refine hK _ (Aw_ret (hQ _ ?_))
  simp only [go_sem,seval,hz]
theorem lacksF_drop {l q:List Sl}:∀ {i:Nat},i≤q.length→(∀ s ∈ q.take i,s ∈ l)→lacksF l q=lacksF l (q.drop i):=by
 induction q with
 | nil=>intro i hi _;simp
 | cons s q ih =>
  intro i hi h
  cases i with
  | zero=>rfl
  | succ i =>
   rw [lacksF,if_pos (h s (by simp)),List.drop_succ_cons]
   exact ih (by simpa using hi) fun x hx=>h x (by simp [hx])
def gLk:List AV→Option (Prop × AV)
 | [.sl _ eh,.sl _ es,.agg [.v (.int .i64 rf),.v (.int .i64 rb),.sl _ e1,.v (.int .i64 rk),.sl _ e2],.v (.int .i64 to)]=>(match hdsL eh,slsL es,intsL e1,intsL e2 with
  | some H,some l,some p,some m=>some ((H.length≤1000000∧l.length≤1000000∧sOkL l)∧p.length≤1000∧m.length≤1000,iv (lacks H l ⟨rf,rb,p,rk,m⟩ to))
  | _,_,_,_=>none)
 | _=>none
def dLk:DFn:={ g:=gLk }
def dLkI (pb:Addr):DFn:={ g:=gLk,inv:=WP pb }
def gSOk:List AV→Option (Prop × AV)
 | [.sl _ eh,.sl _ es,.agg [.v (.int .i64 rf),.v (.int .i64 rb),.sl _ e1,.v (.int .i64 rk),.sl _ e2],.v (.int .i64 to)]=>(match hdsL eh,slsL es,intsL e1,intsL e2 with
  | some H,some l,some p,some m=>some ((H.length≤1000000∧l.length≤1000000∧sOkL l)∧p.length≤1000∧m.length≤1000,bv (decide (lacks H l ⟨rf,rb,p,rk,m⟩ to=0)))
  | _,_,_,_=>none)
 | _=>none
def dSOk:DFn:={ g:=gSOk }
def dSOkI (pb:Addr):DFn:={ g:=gSOk,inv:=WP pb }
attribute [go_sem] gLk dLk dLkI gSOk dSOk dSOkI
theorem pathOk_memS {p:List Int} (h:pathOk p=true):∀ x ∈ p,isH x=true:=by simp only [pathOk,Bool.and_eq_true,List.all_eq_true] at h;exact h.1
theorem pathOk_h {p:List Int} (h:pathOk p=true):hOk p:=fun x hx=>by
 exact pathOk_memS h x hx
theorem last_get {p:List Int} (h:0 < p.length):(rows p)[((p.length:Int) - 1).toNat]? = some [.v (.int .i64 (lastI p))]:=by
 have e:((p.length:Int) - 1).toNat=p.length - 1:=by omega
 rw [e,rows_get p (p.length - 1) (by omega)]
 rfl
set_option maxHeartbeats 4000000 in
theorem iLacks_ok (pb:Addr):Fine Tryd.prog 11 (dLkI pb).con:=by
 refine fine_det (T:=TT) Tryd.func11 rfl Tryd.ntmps11 (by rw [Tryd.results11]) rfl rfl tt gs_nil (ds_cons (iMake_ok pb) (ds_cons holdHas_ok (ds_cons keysOf_ok (ds_cons key_ok (ds_cons hasS_ok ds_nil) (wpt_inh pb)) (wpt_inh pb))) (wp_inh pb)) ?_
 intro args c r h hc
 simp only [dLkI,gLk] at h
 split at h
 rotate_left
 ·cases h
 split at h
 rotate_left
 ·cases h
 rename_i th eh ts es rf rb t1 e1 rk t2 e2 to _ _ _ _ H l p m hds hsl hl1 hl2
 obtain rfl:=hdsL_eq hds
 obtain rfl:=slsL_eq hsl
 obtain rfl:=intsL_eq hl1
 obtain rfl:=intsL_eq hl2
 obtain ⟨rfl,rfl⟩:=Prod.mk.inj (Option.some.inj h)
 refine ⟨by simp,fun k E hE Q hQ=>?_⟩
 obtain ⟨⟨hHl,hll,hls⟩,hpl,hml⟩:=hc
 have hpm:p.length≤1000∧m.length≤1000:=⟨hpl,hml⟩
 refine Aw_st hE [0,1,3,6] [6,12] fun K hK=>?_
 simp only [go_sem,seval]
 refine hK _ ?_;clear hK K
 refine Aw_st hE [0,1,6,9] [6,12] fun K hK=>?_
 simp only [go_sem,seval]
 refine ⟨hpm,?_⟩
 cases hmk:makeOk ⟨rf,rb,p,rk,m⟩ to with
 | false =>
  have hz:sealL ⟨rf,rb,p,rk,m⟩ to=[]:=by unfold sealL;rw [hmk];rfl
  have hz2:lacks H l ⟨rf,rb,p,rk,m⟩ to = -2:=by unfold lacks;rw [hmk];rfl
  rw [hz]
  refine hK _ ?_;clear hK K
  refine Aw_sq fun B1 hB1 hR1 hX1=>?_
  refine Aw_st hE [0,1,6,9,18] [6,12] fun K hK=>?_
  simp only [go_sem,seval]
  refine hK _ (Aw_yes rfl ?_)
  refine Aw_st hE [8] [6,12] fun K hK=>?_
  simp only [go_sem,seval]
  refine hK _ (Aw_ret (hR1 _ (hQ _ ?_)))
  simp only [go_sem,seval,hz2]
 | true =>
 have hz:sealL ⟨rf,rb,p,rk,m⟩ to=mkS rf rb to p:=by unfold sealL;rw [hmk];rfl
 have hmk':=hmk
 simp only [makeOk,Bool.and_eq_true] at hmk'
 obtain ⟨⟨hok,hih⟩,hct⟩:=hmk'
 obtain ⟨_,hp0,hpo,_⟩:=okR_parts hok
 simp only at hp0 hpo
 have hpo2:=pathOk_h hpo
 have hsl0:=mkS_len rf rb p to
 rw [hz]
 refine hK _ ?_;clear hK K
 refine Aw_sq fun B1 hB1 hR1 hX1=>?_
 have d0:decide (((mkS rf rb to p).length:Int)=0)=false:=decide_eq_false (by omega)
 refine Aw_st hE [0,1,6,9,18] [6,12] fun K hK=>?_
 simp only [go_sem,seval,d0]
 refine hK _ (Aw_no rfl (Aw_skip (hB1 _ ?_)))
 refine Aw_sq fun B3 hB3 hR3 hX3=>?_
 have hlg:=last_get hp0
 cases hh:holdB H (lastI p) rf rb with
 | false =>
  have hz2:lacks H l ⟨rf,rb,p,rk,m⟩ to = -1:=by unfold lacks;rw [hmk];simp only [if_true];rw [hh];rfl
  refine Aw_sd hE [1,9,31] [6,12] 6 (by kernel_rfl) fun K hK=>?_
  simp only [go_sem,seval,hlg,hh]
  refine ⟨⟨by omega,by omega⟩,by omega,hHl,?_⟩
  refine hK _ (Aw_yes rfl ?_)
  refine Aw_st hE [8] [6,12] fun K hK=>?_
  simp only [go_sem,seval]
  refine hK _ (Aw_ret (hR3 _ (hQ _ ?_)))
  simp only [go_sem,seval,hz2]
 | true =>
  have hz2:lacks H l ⟨rf,rb,p,rk,m⟩ to=lacksF l (mkS rf rb to p):=by unfold lacks;rw [hmk];simp only [if_true];rw [hh];rfl
  rw [hz2] at hQ
  refine Aw_sd hE [1,9,31] [6,12] 6 (by kernel_rfl) fun K hK=>?_
  simp only [go_sem,seval,hlg,hh]
  refine ⟨⟨by omega,by omega⟩,by omega,hHl,?_⟩
  refine hK _ (Aw_no rfl (Aw_skip (hB3 _ ?_)))
  refine Aw_st hE [9,10] [6,12] fun K hK=>?_
  simp only [go_sem,seval]
  refine ⟨⟨hll,hls⟩,?_⟩
  refine hK _ ?_;clear hK K
  refine Aw_sq fun B5 hB5 hR5 hX5=>?_
  have hmem:∀ s ∈ mkS rf rb to p,hOk s.p∧s.p.length≤1000:=fun s hs=>by
   obtain ⟨h1,h2⟩:=mkS_mem hs
   exact ⟨fun x hx=>hpo2 x (h1 x hx),by omega⟩
  generalize mkS rf rb to p=Q0 at hmem hsl0 hQ ⊢
  refine Aw_st hE [10,34,35,36] [6,12] fun K hK=>?_
  simp only [go_sem,seval]
  refine hK _ ?_;clear hK K
  refine Aw_bk fun B6 hN6 hE6 hR6 hX6=>?_
  refine Aw_lp (fun i:Nat=>⟨48,[(10,.dv (.mp (tbS (keysS l)))),(34,.sl none (srows Q0)),(35,iv Q0.length),(36,iv i)],[],k⟩) (fun i=>i≤Q0.length∧∀ s ∈ Q0.take i,s ∈ l) (fun i=>Q0.length - i) 0 (Le_kS [10,34,35,36] []) ⟨by omega,by simp⟩ fun i hi B7 hN7 hR7 hX7=>?_
  obtain ⟨hi,hin⟩:=hi
  have hdr:=lacksF_drop hi hin
  refine Aw_st hE [10,34,35,36,37] [6,12] fun K hK=>?_
  simp only [go_sem,seval]
  refine hK _ ?_;clear hK K
  refine Aw_sq fun B8 hB8 hR8 hX8=>?_
  refine Aw_cond rfl (fun hc9=>?_) (fun hc9=>?_)
  ·simp only [dte] at hc9
   have hil:i < Q0.length:=by omega
   have hg:=srows_get Q0 i hil
   obtain ⟨hso,hsp⟩:=hmem _ (List.getElem_mem hil)
   have htk:=List.take_succ_eq_append_getElem hil
   rw [List.drop_eq_getElem_cons hil,lacksF] at hdr
   have hfn:=fnd_tb (s:=Q0[i]) hso (T:=keysS l) (fun s hs=>(hls s (keysS_mem.1 hs)).2)
   simp only [keysS_mem] at hfn
   generalize Q0[i]=x at hg hso hsp htk hdr hfn
   simp only [kV] at hfn
   have htb:(List.all (tbS (keysS l)) fun p=>isKey 2 p.fst && unitB p.snd)=true:=tbS_ok _
   refine Aw_skip (hB8 _ ?_)
   refine Aw_sq fun B10 hB10 hR10 hX10=>?_
   refine Aw_bk fun B11 hN11 hE11 hR11 hX11=>?_
   refine Aw_st hE [10,12,34,35,36] [6,12] fun K hK=>?_
   simp only [go_sem,seval,hg]
   repeat refine sd0 ?_
   refine hK _ ?_;clear hK K
   by_cases hxl:x ∈ l
   ·rw [if_pos hxl] at hfn hdr
    refine Aw_st hE [10,12,34,35,36,44] [6,12] fun K hK=>?_
    simp only [go_sem,seval,kA,hfn]
    refine ⟨⟨hsp,hso⟩,htb,?_⟩
    refine hK _ (Aw_no rfl (Aw_skip (hN11 _ (hB10 _ ?_))))
    refine Aw_tx hE [10,34,35,36] [6,12] fun K hK=>?_
    simp only [go_sem,seval]
    repeat refine sd0 ?_
    refine hK _ (hN7 (i + 1) _ ⟨by omega,fun s hs=>?_⟩ (by omega) (Le_kS [10,34,35,36] []))
    rw [htk] at hs
    rcases List.mem_append.1 hs with hs | hs
    ·exact hin s hs
    ·rw [List.mem_singleton.1 hs];exact hxl
   ·rw [if_neg hxl] at hfn hdr
    rw [hdr] at hQ
    refine Aw_st hE [10,12,34,35,36,44] [6,12] fun K hK=>?_
    simp only [go_sem,seval,kA,hfn]
    refine ⟨⟨hsp,hso⟩,htb,?_⟩
    refine hK _ (Aw_yes rfl ?_)
    refine Aw_st hE [8] [6,12] fun K hK=>?_
    simp only [go_sem,seval]
    refine hK _ (Aw_ret (hR11 _ (hR10 _ (hR7 _ (hR6 _ (hR5 _ (hQ _ ?_)))))))
    simp only [go_sem,seval]
  ·simp only [dfn] at hc9
   rw [List.drop_eq_nil_of_le (by omega)] at hdr
   rw [hdr] at hQ
   refine Aw_exit (hX8 _ _ (hX7 _ _ (hE6 _ (hB5 _ ?_))))
   refine Aw_st hE [8] [6,12] fun K hK=>?_
   simp only [go_sem,seval]
   refine hK _ (Aw_ret (hQ _ ?_))
   simp only [go_sem,seval,lacksF]
theorem iSealOk_ok (pb:Addr):Fine Tryd.prog 5 (dSOkI pb).con:=by
 refine fine_det (T:=TT) Tryd.func5 rfl Tryd.ntmps5 (by rw [Tryd.results5]) rfl rfl tt gs_nil (ds_cons (iLacks_ok pb) ds_nil (wp_inh pb)) ?_
 intro args c r h hc
 simp only [dSOkI,gSOk] at h
 split at h
 rotate_left
 ·cases h
 split at h
 rotate_left
 ·cases h
 rename_i th eh ts es rf rb t1 e1 rk t2 e2 to _ _ _ _ H l p m hds hsl hl1 hl2
 obtain rfl:=hdsL_eq hds
 obtain rfl:=slsL_eq hsl
 obtain rfl:=intsL_eq hl1
 obtain rfl:=intsL_eq hl2
 obtain ⟨rfl,rfl⟩:=Prod.mk.inj (Option.some.inj h)
 refine ⟨by simp,fun k E hE Q hQ=>?_⟩
 refine Aw_st hE [0,1,3,6] [6] fun K hK=>?_
 simp only [go_sem,seval]
 refine hK _ ?_;clear hK K
 refine Aw_st hE [8] [6] fun K hK=>?_
 simp only [go_sem,seval]
 refine ⟨hc,?_⟩
 refine hK _ (Aw_ret (hQ _ ?_))
 simp only [go_sem,seval]
def gAddP:List AV→Option (Prop × AV)
 | [.sl _ e,.v (.int .i64 h)]=>(match intsL e with
  | some p=>some ((pathOk p=true∧isH h=true∧p.contains h=false)∧p.length≤1000,.tup [isl (h::p),bv true])
  | none=>none)
 | _=>none
def dAddPI (pb:Addr):DFn:={ g:=gAddP,inv:=WP pb }
attribute [go_sem] gAddP dAddPI
theorem wl2 (h:Int) (p:List Int):waysL [[.sl [[.v (.int .i64 h)]]],[.sl (rows p)]]=some [[h],p]:=waysL_rows [[h],p]
theorem pathAdd_ok (pb:Addr):Fine Tryd.prog 7 (dAddPI pb).con:=by
 refine fine_detG [(0,errV pb)] (wp_gl pb) [] ms_nil (T:=TT) Tryd.func7 rfl Tryd.ntmps7 (by rw [Tryd.results7]) rfl rfl tt (gs_cons (trail_ok pb) gs_nil (wp_inh pb)) (ds_cons is_ok (ds_cons iIsH_ok (ds_cons thas_ok (ds_cons conc_ok ds_nil)))) ?_
 intro args c r h hc
 simp only [dAddPI,gAddP] at h
 split at h
 rotate_left
 ·cases h
 split at h
 rotate_left
 ·cases h
 rename_i t els h0 _ p hl
 obtain rfl:=intsL_eq hl
 obtain ⟨rfl,rfl⟩:=Prod.mk.inj (Option.some.inj h)
 refine ⟨by simp,fun k E hE Q hQ=>?_⟩
 obtain ⟨⟨hpo,hih,hct⟩,hpl⟩:=hc
 have hbd:=setv_bd p
 have hbit:=bitOf_setv p h0 hih
 refine Aw_st hE [0,1] [6] fun K hK=>?_
 simp only [go_sem,seval]
 refine hK _ ?_;clear hK K
 refine Aw_st hE [0,1,6,7] [6] fun K hK=>?_
 simp only [go_sem,seval]
 refine ⟨by omega,fun _=>?_,fun hp=>absurd hpo (by simp [hp])⟩
 refine hK _ ?_;clear hK K
 refine Aw_sq fun B1 hB1 hR1 hX1=>?_
 refine Aw_st hE [0,1,25] [6] fun K hK=>?_
 simp only [go_sem,seval,hih]
 refine ⟨hbd,?_⟩
 rw [hbit,hct]
 refine hK _ (Aw_no rfl (Aw_skip (hB1 _ ?_)))
 refine Aw_st hE [4,5] [6] fun K hK=>?_
 simp only [go_sem,seval,wl2]
 refine ⟨hpl,?_⟩
 refine hK _ (Aw_ret (hQ _ ?_))
 simp only [go_sem,seval]
theorem sRIn_ok:Fine Tryd.prog 53 dRIn.con:=by
 refine fine_det (T:=TT) Tryd.func53 rfl Tryd.ntmps53 (by rw [Tryd.results53]) rfl rfl tt (gs_nil) (ds_cons sRangeOk_ok (ds_cons in1_ok ds_nil)) ?_
 intro args c r h hc
 simp only [dRIn,gRIn] at h
 split at h
 rotate_left
 ·cases h
 obtain ⟨rfl,rfl⟩:=Prod.mk.inj (Option.some.inj h)
 refine ⟨by simp,fun k E hE Q hQ=>?_⟩
 rename_i f b f' b'
 refine Aw_st hE [2,3] [2,3] fun K hK=>?_
 simp only [go_sem,seval]
 refine hK _ ?_;clear hK K
 cases h1:rngOk f b with
 | false =>
  refine Aw_st hE [4] [2,3] fun K hK=>?_
  simp only [go_sem,seval,h1]
  refine hK _ (Aw_ret (hQ _ ?_))
  simp only [go_sem,seval,h1,Bool.false_and]
 | true =>
  cases h2:rngOk f' b' with
  | false =>
   refine Aw_st hE [4] [2,3] fun K hK=>?_
   simp only [go_sem,seval,h1,h2]
   refine hK _ (Aw_ret (hQ _ ?_))
   simp only [go_sem,seval,h1,h2,Bool.true_and,Bool.false_and]
  | true =>
   refine Aw_st hE [4] [2,3] fun K hK=>?_
   simp only [go_sem,seval,h1,h2]
   refine hK _ (Aw_ret (hQ _ ?_))
   simp only [go_sem,seval,h1,h2,Bool.true_and]
theorem any_step {p:Hd→Bool} {H:List Hd} {i:Nat} (h:i < H.length):(H.drop i).any p=(p H[i] || (H.drop (i + 1)).any p):=by
 rw [List.drop_eq_getElem_cons h,List.any_cons]
theorem sHolds_ok:Fine Tryd.prog 30 dHoH.con:=by
 refine fine_det (T:=TT) Tryd.func30 rfl Tryd.ntmps30 (by rw [Tryd.results30]) rfl rfl tt gs_nil (ds_cons sRIn_ok ds_nil) ?_
 intro args c r h hc
 simp only [dHoH,gHoH] at h
 split at h
 rotate_left
 ·cases h
 split at h
 rotate_left
 ·cases h
 rename_i t els ho f b _ H hds
 obtain rfl:=hdsL_eq hds
 obtain ⟨rfl,rfl⟩:=Prod.mk.inj (Option.some.inj h)
 refine ⟨by simp,fun k E hE Q hQ=>?_⟩
 refine Aw_st hE [0,1,5] [5] fun K hK=>?_
 simp only [go_sem,seval]
 refine hK _ ?_;clear hK K
 refine Aw_sq fun B1 hB1 hR1 hX1=>?_
 refine Aw_st hE [0,1,5,7] [5] fun K hK=>?_
 simp only [go_sem,seval]
 refine hK _ ?_;clear hK K
 refine Aw_bk fun B2 hN2 hE2 hR2 hX2=>?_
 refine Aw_lp (fun i:Nat=>⟨30,[(0,.sl t (hrows H)),(1,iv ho),(5,.loc 5 0),(7,iv i)],[(5,[iv f,iv b])],k⟩) (fun i=>i≤H.length∧H.any (hB ho f b)=(H.drop i).any (hB ho f b)) (fun i=>H.length - i) 0 (Le.refl _) ⟨by omega,rfl⟩ fun i hi B3 hN3 hR3 hX3=>?_
 obtain ⟨hi,ha⟩:=hi
 refine Aw_sq fun B4 hB4 hR4 hX4=>?_
 refine Aw_st hE [0,1,5,7,11] [5] fun K hK=>?_
 simp only [go_sem,seval]
 refine hK _ (Aw_cond rfl (fun hc5=>?_) (fun hc5=>?_))
 ·simp only [dte] at hc5
  have hil:i < H.length:=by omega
  have hg:=hrows_get H i hil
  rw [any_step hil] at ha
  generalize H[i]=x at hg ha
  obtain ⟨xh,xf,xb⟩:=x
  refine Aw_skip (hB4 _ ?_)
  refine Aw_sq fun B6 hB6 hR6 hX6=>?_
  refine Aw_bk fun B7 hN7 hE7 hR7 hX7=>?_
  by_cases hh:xh=ho
  ·have d1:decide (xh=ho)=true:=decide_eq_true hh
   have hp:hB ho f b ⟨xh,xf,xb⟩=(rngOk f b && (rngOk xf xb && rIn f b xf xb)):=by unfold hB;simp only [d1,Bool.true_and]
   rw [hp] at ha
   refine Aw_sd hE [0,1,5,7,29] [5] 6 (by kernel_rfl) fun K hK=>?_
   simp only [go_sem,seval,hg,d1]
   refine ⟨by omega,by omega,?_⟩
   refine hK _ (Aw_cond rfl (fun hc9=>?_) (fun hc9=>?_))
   ·rw [hc9,Bool.true_or] at ha
    refine Aw_st hE [6] [5] fun K hK=>?_
    simp only [go_sem,seval]
    refine hK _ (Aw_ret (hR7 _ (hR6 _ (hR3 _ (hR2 _ (hR1 _ (hQ _ ?_)))))))
    rw [show holdB H ho f b=true from ha]
    simp only [go_sem,seval]
   ·rw [hc9,Bool.false_or] at ha
    refine Aw_skip (hN7 _ (hB6 _ ?_))
    refine Aw_tx hE [0,1,5,7] [5] fun K hK=>?_
    simp only [go_sem,seval]
    repeat refine sd0 ?_
    exact hK _ (hN3 (i + 1) _ ⟨by omega,ha⟩ (by omega) (Le.refl _))
  ·have d1:decide (xh=ho)=false:=decide_eq_false hh
   have hp:hB ho f b ⟨xh,xf,xb⟩=false:=by unfold hB;simp only [d1,Bool.false_and]
   rw [hp,Bool.false_or] at ha
   refine Aw_sd hE [0,1,5,7,29] [5] 6 (by kernel_rfl) fun K hK=>?_
   simp only [go_sem,seval,hg,d1]
   refine ⟨by omega,?_⟩
   refine hK _ (Aw_no rfl (Aw_skip (hN7 _ (hB6 _ ?_))))
   refine Aw_tx hE [0,1,5,7] [5] fun K hK=>?_
   simp only [go_sem,seval]
   repeat refine sd0 ?_
   exact hK _ (hN3 (i + 1) _ ⟨by omega,ha⟩ (by omega) (Le.refl _))
 ·simp only [dfn] at hc5
  rw [List.drop_eq_nil_of_le (by omega)] at ha
  refine Aw_exit (hX4 _ _ (hX3 _ _ (hE2 _ (hB1 _ ?_))))
  refine Aw_st hE [6] [5] fun K hK=>?_
  simp only [go_sem,seval]
  refine hK _ (Aw_ret (hQ _ ?_))
  rw [show holdB H ho f b=false from ha]
  simp only [go_sem,seval]
def Sl.av (s:Sl):AV:=.agg [iv s.y,iv s.t,iv s.f,iv s.b,isl s.p]
def gSealO:List AV→Option (Prop × AV)
 | [.agg [.v (.int .i64 rf),.v (.int .i64 rb),.sl _ e1,.v (.int .i64 rk),.sl _ e2],.v (.int .i64 to),.v (.int .i64 a)]=>(match intsL e1,intsL e2 with
  | some p,some m=>some (p.length≤1000∧m.length≤1000∧0≤a∧a < p.length,.agg [iv (p.getD a.toNat 0),iv (prevI to p a.toNat),iv rf,iv rb,isl (p.drop a.toNat)])
  | _,_=>none)
 | _=>none
def dSealO:DFn:={ g:=gSealO }
attribute [go_sem] gSealO dSealO
set_option maxHeartbeats 8000000 in
theorem l13Of_ok:Fine Tryd.prog 32 dSealO.con:=by
 refine fine_det (T:=TT) Tryd.func32 rfl Tryd.ntmps32 (by rw [Tryd.results32]) rfl rfl tt gs_nil ds_nil ?_
 intro args c r h hc
 simp only [dSealO,gSealO] at h
 split at h
 rotate_left
 ·cases h
 split at h
 rotate_left
 ·cases h
 rename_i rf rb t1 e1 rk t2 e2 to a _ _ p m hl1 hl2
 obtain rfl:=intsL_eq hl1
 obtain rfl:=intsL_eq hl2
 obtain ⟨rfl,rfl⟩:=Prod.mk.inj (Option.some.inj h)
 refine ⟨by simp,fun k E hE Q hQ=>?_⟩
 obtain ⟨hpl,hml,ha1,ha2⟩:=hc
 obtain ⟨i,rfl⟩:∃ i:Nat,a=i:=⟨a.toNat,by omega⟩
 simp only [Int.toNat_natCast] at hQ
 have hil:i < p.length:=by omega
 have hg:=rows_get p i hil
 refine Aw_st hE [1,2,3,6] [3,6,7] fun K hK=>?_
 simp only [go_sem,seval]
 refine hK _ ?_;clear hK K
 refine Aw.le (st':=⟨33,[(1,iv to),(2,iv i),(3,.loc 3 0),(6,.loc 6 0)],[(3,[iv rf,iv rb,isl p,iv rk,isl m]),(6,[iv 0,iv 0,iv 0,iv 0,.nl])],k⟩) (Le_wk (Nat.le_refl _) (by simp only [go_sem,seval]) (by simp only [go_sem,seval];try exact ⟨rfl,rfl⟩)) ?_
 apply (fun F0 F1 F2 F3 F4 F5 F6 F7 F8 F9 F10 F11 F12 F13 F14 F15 F16 F17 F18 F19 F20 F21 F22 F23 F24 F25 F26 F27 F28 F29 F30 F31 F32 F33 F34 F35 F36 F37 F38 F39 F40 F41 F42 F43 F44 F45 F46 F47 F48 F49 F50 F51 F52 F53 F54 F55 F56 F57 F58 F59 F60 F61 F62 F63 F64 F65 F66 F67 F68 F69 F70 F71 F72 F73 F74 F75 F76 F77 F78 F79 F80 F81 F82 F83 F84 F85 F86 F87 F88 F89 F90 F91 F92 F93 F94 F95 F96 F97 F98 F99 F100 F101 F102=>Aw_sD hE [([0,1,2,5,6,7,9,11],(.alt 3 (.ref 10) (.alt 8 (.ref 14) (.alt 10 (.ref 15) (.alt 15 (.ref 16) .non))))),([0,1,2,5,6,8,9,11],(.alt 3 (.ref 11) (.alt 7 (.ref 14) (.alt 10 (.ref 17) (.alt 15 (.ref 18) .non))))),([0,1,2,5,6,9,10,11],(.alt 3 (.ref 12) (.alt 7 (.ref 15) (.alt 8 (.ref 17) (.alt 12 (.ref 19) (.alt 15 (.ref 20) .non)))))),([0,1,2,5,6,9,11,15],(.alt 3 (.ref 13) (.alt 7 (.ref 16) (.alt 8 (.ref 18) (.alt 10 (.ref 20) .non))))),([0,2,5,6,7,8,9,11],(.alt 1 (.ref 14) (.alt 10 (.ref 21) (.alt 15 (.ref 22) .non)))),([0,2,5,6,7,9,10,11],(.alt 1 (.ref 15) (.alt 8 (.ref 21) (.alt 12 (.ref 23) (.alt 15 (.ref 24) .non))))),([0,2,5,6,7,9,11,15],(.alt 1 (.ref 16) (.alt 8 (.ref 22) (.alt 10 (.ref 24) .non)))),([0,2,5,6,8,9,10,11],(.alt 1 (.ref 17) (.alt 7 (.ref 21) (.alt 12 (.ref 25) (.alt 15 (.ref 26) .non))))),([0,2,5,6,8,9,11,15],(.alt 1 (.ref 18) (.alt 7 (.ref 22) (.alt 10 (.ref 26) .non)))),([0,2,5,6,9,10,11,15],(.alt 1 (.ref 20) (.alt 7 (.ref 24) (.alt 8 (.ref 26) (.alt 12 (.ref 27) .non))))),([0,1,2,3,5,6,7,9,11],(.alt 4 (.ref 28) (.alt 8 (.ref 32) (.alt 10 (.ref 33) (.alt 15 (.ref 34) .non))))),([0,1,2,3,5,6,8,9,11],(.alt 4 (.ref 29) (.alt 7 (.ref 32) (.alt 10 (.ref 35) (.alt 15 (.ref 36) .non))))),([0,1,2,3,5,6,9,10,11],(.alt 4 (.ref 30) (.alt 7 (.ref 33) (.alt 8 (.ref 35) (.alt 12 (.ref 37) (.alt 15 (.ref 38) .non)))))),([0,1,2,3,5,6,9,11,15],(.alt 4 (.ref 31) (.alt 7 (.ref 34) (.alt 8 (.ref 36) (.alt 10 (.ref 38) .non))))),([0,1,2,5,6,7,8,9,11],(.alt 3 (.ref 32) (.alt 10 (.ref 39) (.alt 15 (.ref 40) .non)))),([0,1,2,5,6,7,9,10,11],(.alt 3 (.ref 33) (.alt 8 (.ref 39) (.alt 12 (.ref 41) (.alt 15 (.ref 42) .non))))),([0,1,2,5,6,7,9,11,15],(.alt 3 (.ref 34) (.alt 8 (.ref 40) (.alt 10 (.ref 42) .non)))),([0,1,2,5,6,8,9,10,11],(.alt 3 (.ref 35) (.alt 7 (.ref 39) (.alt 12 (.ref 43) (.alt 15 (.ref 44) .non))))),([0,1,2,5,6,8,9,11,15],(.alt 3 (.ref 36) (.alt 7 (.ref 40) (.alt 10 (.ref 44) .non)))),([0,1,2,5,6,9,10,11,12],(.alt 3 (.ref 37) (.alt 7 (.ref 41) (.alt 8 (.ref 43) (.alt 15 (.ref 45) .non))))),([0,1,2,5,6,9,10,11,15],(.alt 3 (.ref 38) (.alt 7 (.ref 42) (.alt 8 (.ref 44) (.alt 12 (.ref 45) .non))))),([0,2,5,6,7,8,9,10,11],(.alt 1 (.ref 39) (.alt 12 (.ref 46) (.alt 15 (.ref 47) .non)))),([0,2,5,6,7,8,9,11,15],(.alt 1 (.ref 40) (.alt 10 (.ref 47) .non))),([0,2,5,6,7,9,10,11,12],(.alt 1 (.ref 41) (.alt 8 (.ref 46) (.alt 15 (.ref 48) .non)))),([0,2,5,6,7,9,10,11,15],(.alt 1 (.ref 42) (.alt 8 (.ref 47) (.alt 12 (.ref 48) .non)))),([0,2,5,6,8,9,10,11,12],(.alt 1 (.ref 43) (.alt 7 (.ref 46) (.alt 13 (.alt 1 (.ref 67) (.alt 7 (.ref 69) (.alt 15 (.ref 71) .non))) (.alt 15 (.ref 49) .non))))),([0,2,5,6,8,9,10,11,15],(.alt 1 (.ref 44) (.alt 7 (.ref 47) (.alt 12 (.ref 49) .non)))),([0,2,5,6,9,10,11,12,15],(.alt 1 (.ref 45) (.alt 7 (.ref 48) (.alt 8 (.ref 49) .non)))),([0,1,2,3,4,5,6,7,9,11],(.alt 8 (.ref 50) (.alt 10 (.ref 51) (.alt 15 (.ref 52) .non)))),([0,1,2,3,4,5,6,8,9,11],(.alt 7 (.ref 50) (.alt 10 (.ref 53) (.alt 15 (.ref 54) .non)))),([0,1,2,3,4,5,6,9,10,11],(.alt 7 (.ref 51) (.alt 8 (.ref 53) (.alt 12 (.ref 55) (.alt 15 (.ref 56) .non))))),([0,1,2,3,4,5,6,9,11,15],(.alt 7 (.ref 52) (.alt 8 (.ref 54) (.alt 10 (.ref 56) .non)))),([0,1,2,3,5,6,7,8,9,11],(.alt 4 (.ref 50) (.alt 10 (.ref 57) (.alt 15 (.ref 58) .non)))),([0,1,2,3,5,6,7,9,10,11],(.alt 4 (.ref 51) (.alt 8 (.ref 57) (.alt 12 (.ref 59) (.alt 15 (.ref 60) .non))))),([0,1,2,3,5,6,7,9,11,15],(.alt 4 (.ref 52) (.alt 8 (.ref 58) (.alt 10 (.ref 60) .non)))),([0,1,2,3,5,6,8,9,10,11],(.alt 4 (.ref 53) (.alt 7 (.ref 57) (.alt 12 (.ref 61) (.alt 15 (.ref 62) .non))))),([0,1,2,3,5,6,8,9,11,15],(.alt 4 (.ref 54) (.alt 7 (.ref 58) (.alt 10 (.ref 62) .non)))),([0,1,2,3,5,6,9,10,11,12],(.alt 4 (.ref 55) (.alt 7 (.ref 59) (.alt 8 (.ref 61) (.alt 15 (.ref 63) .non))))),([0,1,2,3,5,6,9,10,11,15],(.alt 4 (.ref 56) (.alt 7 (.ref 60) (.alt 8 (.ref 62) (.alt 12 (.ref 63) .non))))),([0,1,2,5,6,7,8,9,10,11],(.alt 3 (.ref 57) (.alt 12 (.ref 64) (.alt 15 (.ref 65) .non)))),([0,1,2,5,6,7,8,9,11,15],(.alt 3 (.ref 58) (.alt 10 (.ref 65) .non))),([0,1,2,5,6,7,9,10,11,12],(.alt 3 (.ref 59) (.alt 8 (.ref 64) (.alt 15 (.ref 66) .non)))),([0,1,2,5,6,7,9,10,11,15],(.alt 3 (.ref 60) (.alt 8 (.ref 65) (.alt 12 (.ref 66) .non)))),([0,1,2,5,6,8,9,10,11,12],(.alt 3 (.ref 61) (.alt 7 (.ref 64) (.alt 13 (.ref 67) (.alt 15 (.ref 68) .non))))),([0,1,2,5,6,8,9,10,11,15],(.alt 3 (.ref 62) (.alt 7 (.ref 65) (.alt 12 (.ref 68) .non)))),([0,1,2,5,6,9,10,11,12,15],(.alt 3 (.ref 63) (.alt 7 (.ref 66) (.alt 8 (.ref 68) .non)))),([0,2,5,6,7,8,9,10,11,12],(.alt 1 (.ref 64) (.alt 13 (.ref 69) (.alt 15 (.ref 70) .non)))),([0,2,5,6,7,8,9,10,11,15],(.alt 1 (.ref 65) (.alt 12 (.ref 70) .non))),([0,2,5,6,7,9,10,11,12,15],(.alt 1 (.ref 66) (.alt 8 (.ref 70) .non))),([0,2,5,6,8,9,10,11,12,15],(.alt 1 (.ref 68) (.alt 7 (.ref 70) (.alt 13 (.ref 71) .non)))),([0,1,2,3,4,5,6,7,8,9,11],(.alt 10 (.ref 72) (.alt 15 (.ref 73) .non))),([0,1,2,3,4,5,6,7,9,10,11],(.alt 8 (.ref 72) (.alt 12 (.ref 74) (.alt 15 (.ref 75) .non)))),([0,1,2,3,4,5,6,7,9,11,15],(.alt 8 (.ref 73) (.alt 10 (.ref 75) .non))),([0,1,2,3,4,5,6,8,9,10,11],(.alt 7 (.ref 72) (.alt 12 (.ref 76) (.alt 15 (.ref 77) .non)))),([0,1,2,3,4,5,6,8,9,11,15],(.alt 7 (.ref 73) (.alt 10 (.ref 77) .non))),([0,1,2,3,4,5,6,9,10,11,12],(.alt 7 (.ref 74) (.alt 8 (.ref 76) (.alt 15 (.ref 78) .non)))),([0,1,2,3,4,5,6,9,10,11,15],(.alt 7 (.ref 75) (.alt 8 (.ref 77) (.alt 12 (.ref 78) .non)))),([0,1,2,3,5,6,7,8,9,10,11],(.alt 4 (.ref 72) (.alt 12 (.ref 79) (.alt 15 (.ref 80) .non)))),([0,1,2,3,5,6,7,8,9,11,15],(.alt 4 (.ref 73) (.alt 10 (.ref 80) .non))),([0,1,2,3,5,6,7,9,10,11,12],(.alt 4 (.ref 74) (.alt 8 (.ref 79) (.alt 15 (.ref 81) .non)))),([0,1,2,3,5,6,7,9,10,11,15],(.alt 4 (.ref 75) (.alt 8 (.ref 80) (.alt 12 (.ref 81) .non)))),([0,1,2,3,5,6,8,9,10,11,12],(.alt 4 (.ref 76) (.alt 7 (.ref 79) (.alt 13 (.ref 82) (.alt 15 (.ref 83) .non))))),([0,1,2,3,5,6,8,9,10,11,15],(.alt 4 (.ref 77) (.alt 7 (.ref 80) (.alt 12 (.ref 83) .non)))),([0,1,2,3,5,6,9,10,11,12,15],(.alt 4 (.ref 78) (.alt 7 (.ref 81) (.alt 8 (.ref 83) .non)))),([0,1,2,5,6,7,8,9,10,11,12],(.alt 3 (.ref 79) (.alt 13 (.ref 84) (.alt 15 (.ref 85) .non)))),([0,1,2,5,6,7,8,9,10,11,15],(.alt 3 (.ref 80) (.alt 12 (.ref 85) .non))),([0,1,2,5,6,7,9,10,11,12,15],(.alt 3 (.ref 81) (.alt 8 (.ref 85) .non))),([0,1,2,5,6,8,9,10,11,12,13],(.alt 3 (.ref 82) (.alt 7 (.ref 84) (.alt 15 (.ref 86) .non)))),([0,1,2,5,6,8,9,10,11,12,15],(.alt 3 (.ref 83) (.alt 7 (.ref 85) (.alt 13 (.ref 86) .non)))),([0,2,5,6,7,8,9,10,11,12,13],(.alt 1 (.ref 84) (.alt 15 (.ref 87) .non))),([0,2,5,6,7,8,9,10,11,12,15],(.alt 1 (.ref 85) (.alt 13 (.ref 87) .non))),([0,2,5,6,8,9,10,11,12,13,15],(.alt 1 (.ref 86) (.alt 7 (.ref 87) .non))),([0,1,2,3,4,5,6,7,8,9,10,11],(.alt 12 (.ref 88) (.alt 15 (.ref 89) .non))),([0,1,2,3,4,5,6,7,8,9,11,15],(.alt 10 (.ref 89) .non)),([0,1,2,3,4,5,6,7,9,10,11,12],(.alt 8 (.ref 88) (.alt 15 (.ref 90) .non))),([0,1,2,3,4,5,6,7,9,10,11,15],(.alt 8 (.ref 89) (.alt 12 (.ref 90) .non))),([0,1,2,3,4,5,6,8,9,10,11,12],(.alt 7 (.ref 88) (.alt 13 (.ref 91) (.alt 15 (.ref 92) .non)))),([0,1,2,3,4,5,6,8,9,10,11,15],(.alt 7 (.ref 89) (.alt 12 (.ref 92) .non))),([0,1,2,3,4,5,6,9,10,11,12,15],(.alt 7 (.ref 90) (.alt 8 (.ref 92) .non))),([0,1,2,3,5,6,7,8,9,10,11,12],(.alt 4 (.ref 88) (.alt 13 (.ref 93) (.alt 15 (.ref 94) .non)))),([0,1,2,3,5,6,7,8,9,10,11,15],(.alt 4 (.ref 89) (.alt 12 (.ref 94) .non))),([0,1,2,3,5,6,7,9,10,11,12,15],(.alt 4 (.ref 90) (.alt 8 (.ref 94) .non))),([0,1,2,3,5,6,8,9,10,11,12,13],(.alt 4 (.ref 91) (.alt 7 (.ref 93) (.alt 15 (.ref 95) .non)))),([0,1,2,3,5,6,8,9,10,11,12,15],(.alt 4 (.ref 92) (.alt 7 (.ref 94) (.alt 13 (.ref 95) .non)))),([0,1,2,5,6,7,8,9,10,11,12,13],(.alt 3 (.ref 93) (.alt 15 (.ref 96) .non))),([0,1,2,5,6,7,8,9,10,11,12,15],(.alt 3 (.ref 94) (.alt 13 (.ref 96) .non))),([0,1,2,5,6,8,9,10,11,12,13,15],(.alt 3 (.ref 95) (.alt 7 (.ref 96) .non))),([0,2,5,6,7,8,9,10,11,12,13,15],(.alt 1 (.ref 96) .non)),([0,1,2,3,4,5,6,7,8,9,10,11,12],(.alt 13 (.ref 97) (.alt 15 (.ref 98) .non))),([0,1,2,3,4,5,6,7,8,9,10,11,15],(.alt 12 (.ref 98) .non)),([0,1,2,3,4,5,6,7,9,10,11,12,15],(.alt 8 (.ref 98) .non)),([0,1,2,3,4,5,6,8,9,10,11,12,13],(.alt 7 (.ref 97) (.alt 15 (.ref 99) .non))),([0,1,2,3,4,5,6,8,9,10,11,12,15],(.alt 7 (.ref 98) (.alt 13 (.ref 99) .non))),([0,1,2,3,5,6,7,8,9,10,11,12,13],(.alt 4 (.ref 97) (.alt 15 (.ref 100) .non))),([0,1,2,3,5,6,7,8,9,10,11,12,15],(.alt 4 (.ref 98) (.alt 13 (.ref 100) .non))),([0,1,2,3,5,6,8,9,10,11,12,13,15],(.alt 4 (.ref 99) (.alt 7 (.ref 100) .non))),([0,1,2,5,6,7,8,9,10,11,12,13,15],(.alt 3 (.ref 100) .non)),([0,1,2,3,4,5,6,7,8,9,10,11,12,13],(.alt 14 (.alt 15 (.ref 102) .non) (.alt 15 (.ref 101) .non))),([0,1,2,3,4,5,6,7,8,9,10,11,12,15],(.alt 13 (.ref 101) .non)),([0,1,2,3,4,5,6,8,9,10,11,12,13,15],(.alt 7 (.ref 101) .non)),([0,1,2,3,5,6,7,8,9,10,11,12,13,15],(.alt 4 (.ref 101) .non)),([0,1,2,3,4,5,6,7,8,9,10,11,12,13,15],(.alt 14 (.ref 102) .non)),([0,1,2,3,4,5,6,7,8,9,10,11,12,13,14,15],(.alt 16 .done .non))] (.fst 0 (.fst 2 (.fst 5 (.fst 6 (.fst 9 (.fst 11 (.alt 1 (.alt 3 (.alt 4 (.alt 7 (.ref 28) (.alt 8 (.ref 29) (.alt 10 (.ref 30) (.alt 15 (.ref 31) .non)))) (.alt 7 (.ref 10) (.alt 8 (.ref 11) (.alt 10 (.ref 12) (.alt 15 (.ref 13) .non))))) (.alt 7 (.ref 0) (.alt 8 (.ref 1) (.alt 10 (.ref 2) (.alt 15 (.ref 3) .non))))) (.alt 7 (.alt 1 (.ref 0) (.alt 8 (.ref 4) (.alt 10 (.ref 5) (.alt 15 (.ref 6) .non)))) (.alt 8 (.alt 1 (.ref 1) (.alt 7 (.ref 4) (.alt 10 (.ref 7) (.alt 15 (.ref 8) .non)))) (.alt 10 (.alt 1 (.ref 2) (.alt 7 (.ref 5) (.alt 8 (.ref 7) (.alt 12 (.alt 1 (.ref 19) (.alt 7 (.ref 23) (.alt 8 (.ref 25) (.alt 15 (.ref 27) .non)))) (.alt 15 (.ref 9) .non))))) (.alt 15 (.alt 1 (.ref 3) (.alt 7 (.ref 6) (.alt 8 (.ref 8) (.alt 10 (.ref 9) .non)))) .non))))))))))) [F0,F1,F2,F3,F4,F5,F6,F7,F8,F9,F10,F11,F12,F13,F14,F15,F16,F17,F18,F19,F20,F21,F22,F23,F24,F25,F26,F27,F28,F29,F30,F31,F32,F33,F34,F35,F36,F37,F38,F39,F40,F41,F42,F43,F44,F45,F46,F47,F48,F49,F50,F51,F52,F53,F54,F55,F56,F57,F58,F59,F60,F61,F62,F63,F64,F65,F66,F67,F68,F69,F70,F71,F72,F73,F74,F75,F76,F77,F78,F79,F80,F81,F82,F83,F84,F85,F86,F87,F88,F89,F90,F91,F92,F93,F94,F95,F96,F97,F98,F99,F100,F101,F102] [2,3,6,7] [3,6,7])
 ·kernel_rfl
 intro K hK
 refine And.intro ?_ (And.intro ?_ (And.intro ?_ (And.intro ?_ (And.intro ?_ (And.intro ?_ (And.intro ?_ (And.intro ?_ (And.intro ?_ (And.intro ?_ (And.intro ?_ (And.intro ?_ (And.intro ?_ (And.intro ?_ (And.intro ?_ (And.intro ?_ (And.intro ?_ (And.intro ?_ (And.intro ?_ (And.intro ?_ (And.intro ?_ (And.intro ?_ (And.intro ?_ (And.intro ?_ (And.intro ?_ (And.intro ?_ (And.intro ?_ (And.intro ?_ (And.intro ?_ (And.intro ?_ (And.intro ?_ (And.intro ?_ (And.intro ?_ (And.intro ?_ (And.intro ?_ (And.intro ?_ (And.intro ?_ (And.intro ?_ (And.intro ?_ (And.intro ?_ (And.intro ?_ (And.intro ?_ (And.intro ?_ (And.intro ?_ (And.intro ?_ (And.intro ?_ (And.intro ?_ (And.intro ?_ (And.intro ?_ (And.intro ?_ (And.intro ?_ (And.intro ?_ (And.intro ?_ (And.intro ?_ (And.intro ?_ (And.intro ?_ (And.intro ?_ (And.intro ?_ (And.intro ?_ (And.intro ?_ (And.intro ?_ (And.intro ?_ (And.intro ?_ (And.intro ?_ (And.intro ?_ (And.intro ?_ (And.intro ?_ (And.intro ?_ (And.intro ?_ (And.intro ?_ (And.intro ?_ (And.intro ?_ (And.intro ?_ (And.intro ?_ (And.intro ?_ (And.intro ?_ (And.intro ?_ (And.intro ?_ (And.intro ?_ (And.intro ?_ (And.intro ?_ (And.intro ?_ (And.intro ?_ (And.intro ?_ (And.intro ?_ (And.intro ?_ (And.intro ?_ (And.intro ?_ (And.intro ?_ (And.intro ?_ (And.intro ?_ (And.intro ?_ (And.intro ?_ (And.intro ?_ (And.intro ?_ (And.intro ?_ (And.intro ?_ (And.intro ?_ (And.intro ?_ (And.intro ?_ (And.intro ?_ (And.intro ?_ (And.intro ?_ (And.intro ?_ trivial)))))))))))))))))))))))))))))))))))))))))))))))))))))))))))))))))))))))))))))))))))))))))))))))))))))))
 iterate 103 (focus (simp only [go_sem,seval,hg];repeat' (first | exact (fun _ _ r=>r) | exact LeE_eq (by simp only [go_sem,seval,hg]) (by simp only [go_sem,seval,hg]) | exact LeE_wk (by simp only [go_sem,seval,hg]) (by simp only [go_sem,seval,hg]) | refine And.intro (by first|omega|(and_intros<;>first|omega|exact crows_row _|exact rrows_row _|exact rows_row _|decide|(simp<;>omega))|fail) ?_ | refine And.intro ?_ ?_)))
 simp only [go_sem,seval,hg]
 rw [List.take_length]
 refine hK _ ?_;clear hK K
 refine Aw_sq fun B1 hB1 hR1 hX1=>?_
 refine Aw_st hE [2,3,6,7,24] [3,6,7] fun K hK=>?_
 simp only [go_sem,seval]
 refine hK _ (Aw_cond rfl (fun hc2=>?_) (fun hc2=>?_))
 ·simp only [dte] at hc2
  have hi1:((i:Int) - 1).toNat=i - 1:=by omega
  have hg1:=rows_get p (i - 1) (by omega)
  have hpv:prevI to p i=p.getD (i - 1) 0:=by unfold prevI;rw [if_neg (by omega)]
  rw [hpv] at hQ
  refine Aw_tx hE [6,7] [3,6,7] fun K hK=>?_
  simp only [go_sem,seval,hi1,hg1]
  refine ⟨⟨by omega,by omega⟩,by omega,?_⟩
  refine hK _ (hB1 _ ?_)
  refine Aw_st hE [6] [3,6,7] fun K hK=>?_
  simp only [go_sem,seval]
  refine hK _ (Aw_ret (hQ _ ?_))
  simp only [go_sem,seval]
 ·simp only [dfn] at hc2
  have hpv:prevI to p i=to:=by unfold prevI;rw [if_pos (by omega)]
  rw [hpv] at hQ
  refine Aw_skip (hB1 _ ?_)
  refine Aw_st hE [6] [3,6,7] fun K hK=>?_
  simp only [go_sem,seval]
  refine hK _ (Aw_ret (hQ _ ?_))
  simp only [go_sem,seval]
def gMakeO:List AV→Option (Prop × AV)
 | [.agg [.v (.int .i64 rf),.v (.int .i64 rb),.sl _ e1,.v (.int .i64 rk),.sl _ e2],.v (.int .i64 to)]=>(match intsL e1,intsL e2 with
  | some p,some m=>some (p.length≤1000∧m.length≤1000,.sl (some (0,0,37)) (srows (sealL ⟨rf,rb,p,rk,m⟩ to)))
  | _,_=>none)
 | _=>none
def dMakeO:DFn:={ g:=gMakeO,own:=true }
attribute [go_sem] gMakeO dMakeO
set_option maxHeartbeats 8000000 in
theorem sMake_ok:Fine Tryd.prog 21 dMakeO.con:=by
 refine fine_det (T:=TT) Tryd.func21 rfl Tryd.ntmps21 (by rw [Tryd.results21]) rfl rfl tt gs_nil (ds_cons sRtOk_ok (ds_cons sIsH_ok (ds_cons has3_ok (ds_cons l13Of_ok ds_nil)))) ?_
 intro args c r h hc
 simp only [dMakeO,gMakeO] at h
 split at h
 rotate_left
 ·cases h
 split at h
 rotate_left
 ·cases h
 rename_i rf rb t1 e1 rk t2 e2 to _ _ p m hl1 hl2
 obtain rfl:=intsL_eq hl1
 obtain rfl:=intsL_eq hl2
 obtain ⟨rfl,rfl⟩:=Prod.mk.inj (Option.some.inj h)
 refine ⟨by simp,fun k E hE Q hQ=>?_⟩
 obtain ⟨hpl,hml⟩:=hc
 have hln:p.length≤4294967296∧m.length≤4294967296:=by omega
 have hp4:p.length≤4294967296:=hln.1
 refine Aw_st hE [1,2] [2] fun K hK=>?_
 simp only [go_sem,seval]
 refine hK _ ?_;clear hK K
 refine Aw_st hE [1,2,5] [2] fun K hK=>?_
 simp only [go_sem,seval]
 refine hK _ ?_;clear hK K
 refine Aw.le (st':=⟨38,[(1,iv to),(2,.loc 2 0),(5,.sl (some (7,0,37)) [])],[(2,[iv rf,iv rb,isl p,iv rk,isl m])],k⟩) (Le_wk (Nat.le_refl _) (by simp only [go_sem,seval]) (by simp only [go_sem,seval];try exact ⟨rfl,rfl⟩)) ?_
 refine Aw_sq fun B1 hB1 hR1 hX1=>?_
 cases hmk:makeOk ⟨rf,rb,p,rk,m⟩ to with
 | false =>
  have hz:sealL ⟨rf,rb,p,rk,m⟩ to=[]:=by unfold sealL;rw [hmk];rfl
  rw [hz] at hQ
  have hmk2:(!rtOk rf rb p rk m || (!isH to || p.contains to))=true:=by
   simp only [makeOk,okR] at hmk
   revert hmk
   cases rtOk rf rb p rk m<;>cases isH to<;>cases p.contains to<;>simp
  cases h1:rtOk rf rb p rk m with
  | false =>
   refine Aw_st hE [1,2,5,21] [2] fun K hK=>?_
   simp only [go_sem,seval,h1]
   refine ⟨hln,?_⟩
   refine hK _ (Aw_yes rfl ?_)
   refine Aw_st hE [4] [2] fun K hK=>?_
   simp only [go_sem,seval]
   refine hK _ (Aw_ret (hR1 _ (hQ _ ?_)))
   simp only [go_sem,seval]
  | true =>
   rw [h1,Bool.not_true,Bool.false_or] at hmk2
   refine Aw_st hE [1,2,5,21] [2] fun K hK=>?_
   simp only [go_sem,seval,h1]
   refine ⟨hln,fun h2=>?_,fun h2=>⟨hp4,?_⟩⟩
   ·refine hK _ (Aw_yes rfl ?_)
    refine Aw_st hE [4] [2] fun K hK=>?_
    simp only [go_sem,seval]
    refine hK _ (Aw_ret (hR1 _ (hQ _ ?_)))
    simp only [go_sem,seval]
   ·rw [show p.contains to=true by simpa [h2] using hmk2]
    refine hK _ (Aw_yes rfl ?_)
    refine Aw_st hE [4] [2] fun K hK=>?_
    simp only [go_sem,seval]
    refine hK _ (Aw_ret (hR1 _ (hQ _ ?_)))
    simp only [go_sem,seval]
 | true =>
  have hz:sealL ⟨rf,rb,p,rk,m⟩ to=mkS rf rb to p:=by unfold sealL;rw [hmk];rfl
  rw [hz] at hQ
  simp only [makeOk,okR,Bool.and_eq_true,Bool.not_eq_true'] at hmk
  obtain ⟨⟨hro,hih⟩,hct⟩:=hmk
  have hsl0:=mkS_len rf rb p to
  refine Aw_st hE [1,2,5,21] [2] fun K hK=>?_
  simp only [go_sem,seval,hro,hih,hct]
  refine ⟨hln,hp4,hK _ (Aw_no rfl (Aw_skip (hB1 _ ?_)))⟩
  refine Aw_sq fun B3 hB3 hR3 hX3=>?_
  refine Aw_st hE [1,2,5,6] [2] fun K hK=>?_
  simp only [go_sem,seval]
  refine hK _ ?_;clear hK K
  refine Aw_bk fun B4 hN4 hE4 hR4 hX4=>?_
  refine Aw_lp (fun i:Nat=>⟨38,[(1,iv to),(2,.loc 2 0),(5,.sl (some (7,0,37)) (srows ((mkS rf rb to p).take i))),(6,iv i)],[(2,[iv rf,iv rb,isl p,iv rk,isl m])],k⟩) (fun i=>i≤p.length) (fun i=>p.length - i) 0 (Le.refl _) (by omega) fun i hi B5 hN5 hR5 hX5=>?_
  refine Aw_sq fun B6 hB6 hR6 hX6=>?_
  refine Aw_st hE [1,2,5,6,27] [2] fun K hK=>?_
  simp only [go_sem,seval]
  refine hK _ (Aw_cond rfl (fun hc7=>?_) (fun hc7=>?_))
  ·simp only [dte] at hc7
   have hil:i < p.length:=by omega
   have hst:=mkS_take (f:=rf) (b:=rb) (to:=to) hil
   have hgd:p.getD i 0=p[i]:=by simp [List.getD_eq_getElem?_getD,hil]
   refine Aw_skip (hB6 _ ?_)
   refine Aw_sq fun B8 hB8 hR8 hX8=>?_
   refine Aw_bk fun B9 hN9 hE9 hR9 hX9=>?_
   refine Aw_tx hE [1,2,5,6] [2] fun K hK=>?_
   simp only [go_sem,seval,srows_one]
   refine ⟨⟨hpl,hml,by omega,by omega⟩,⟨srows_row _,by rw [List.length_take];omega⟩,?_⟩
   rw [hgd,← hst]
   refine hK _ (hN9 _ (hB8 _ ?_))
   refine Aw_tx hE [1,2,5,6] [2] fun K hK=>?_
   simp only [go_sem,seval]
   repeat refine sd0 ?_
   exact hK _ (hN5 (i + 1) _ (by omega) (by omega) (Le_tk 36 7 rfl))
  ·simp only [dfn] at hc7
   rw [List.take_of_length_le (show (mkS rf rb to p).length≤i by omega)]
   refine Aw_exit (hX6 _ _ (hX5 _ _ (hE4 _ (hB3 _ ?_))))
   refine Aw_st hE [4] [2] fun K hK=>?_
   simp only [go_sem,seval]
   refine hK _ (Aw_ret (hQ _ ?_))
   simp only [go_sem,seval]
def gSlHas:List AV→Option (Prop × AV)
 | [.sl _ es,.agg [.v (.int .i64 y),.v (.int .i64 to),.v (.int .i64 f),.v (.int .i64 b),.sl _ e]]=>(match slsL es,intsL e with
  | some l,some p=>some (l.length≤1000000∧(∀ s ∈ l,s.p.length≤1000)∧p.length≤1000,bv (decide ((⟨y,to,f,b,p⟩:Sl) ∈ l)))
  | _,_=>none)
 | _=>none
def dSlHas:DFn:={ g:=gSlHas }
attribute [go_sem] gSlHas dSlHas
theorem pCmp_rS (a:List Int):pCmp a a=0:=by
 unfold pCmp;simp only [orL,cmpI_eq,if_true]
 induction a with
 | nil=>rfl
 | cons x a ih=>simp [cmpL,cmpI_eq,orL,ih]
theorem slHas_ok:Fine Tryd.prog 31 dSlHas.con:=by
 refine fine_det (T:=TT) Tryd.func31 rfl Tryd.ntmps31 (by rw [Tryd.results31]) rfl rfl tt gs_nil (ds_cons l3Cmp_ok ds_nil) ?_
 intro args c r h hc
 simp only [dSlHas,gSlHas] at h
 split at h
 rotate_left
 ·cases h
 split at h
 rotate_left
 ·cases h
 rename_i t es y to f b t1 e _ _ l p hsl hl1
 obtain rfl:=slsL_eq hsl
 obtain rfl:=intsL_eq hl1
 obtain ⟨rfl,rfl⟩:=Prod.mk.inj (Option.some.inj h)
 refine ⟨by simp,fun k E hE Q hQ=>?_⟩
 obtain ⟨hll,hls,hpl⟩:=hc
 refine Aw_st hE [0,3] [3] fun K hK=>?_
 simp only [go_sem,seval]
 refine hK _ ?_;clear hK K
 refine Aw.le (st':=⟨51,[(0,.sl none (srows l)),(3,.loc 3 0)],[(3,[iv y,iv to,iv f,iv b,isl p])],k⟩) (Le_wk (Nat.le_refl _) (by simp only [go_sem,seval]) (by simp only [go_sem,seval];try exact ⟨rfl,rfl⟩)) ?_
 refine Aw_sq fun B1 hB1 hR1 hX1=>?_
 refine Aw_st hE [0,3,5] [3] fun K hK=>?_
 simp only [go_sem,seval]
 refine hK _ ?_;clear hK K
 refine Aw_bk fun B2 hN2 hE2 hR2 hX2=>?_
 refine Aw_lp (fun i:Nat=>⟨51,[(0,.sl none (srows l)),(3,.loc 3 0),(5,iv i)],[(3,[iv y,iv to,iv f,iv b,isl p])],k⟩) (fun i=>i≤l.length∧((⟨y,to,f,b,p⟩:Sl) ∈ l↔(⟨y,to,f,b,p⟩:Sl) ∈ l.drop i)) (fun i=>l.length - i) 0 (Le.refl _) ⟨by omega,by simp⟩ fun i hi B3 hN3 hR3 hX3=>?_
 obtain ⟨hi,hin⟩:=hi
 refine Aw_sq fun B4 hB4 hR4 hX4=>?_
 refine Aw_st hE [0,3,5,9] [3] fun K hK=>?_
 simp only [go_sem,seval]
 refine hK _ (Aw_cond rfl (fun hc5=>?_) (fun hc5=>?_))
 ·simp only [dte] at hc5
  have hil:i < l.length:=by omega
  have hg:=srows_get l i hil
  have hxp:=hls _ (List.getElem_mem hil)
  rw [List.drop_eq_getElem_cons hil,List.mem_cons] at hin
  generalize l[i]=x at hg hxp hin
  obtain ⟨xy,xt,xf,xb,xp⟩:=x
  simp only at hxp
  have hbad:¬ (⟨y,to,f,b,p⟩:Sl)=⟨xy,xt,xf,xb,xp⟩→((⟨y,to,f,b,p⟩:Sl) ∈ l↔(⟨y,to,f,b,p⟩:Sl) ∈ l.drop (i + 1)):=fun hne=>by rw [hin];simp [hne]
  refine Aw_skip (hB4 _ ?_)
  refine Aw_sq fun B6 hB6 hR6 hX6=>?_
  refine Aw_bk fun B7 hN7 hE7 hR7 hX7=>?_
  by_cases h1:xy=y
  ·have d1:decide (xy=y)=true:=decide_eq_true h1
   by_cases h2:xt=to
   ·have d2:decide (xt=to)=true:=decide_eq_true h2
    refine Aw_sd hE [0,3,5,50] [3] 6 (by kernel_rfl) fun K hK=>?_
    simp only [go_sem,seval,hg,d1,d2]
    refine ⟨by omega,by omega,by omega,fun h3=>⟨by omega,by omega,?_⟩,fun h3=>?_⟩
    ·simp only [Bool.and_eq_true,beq_iff_eq] at h3
     by_cases h4:pCmp xp p=0
     ·rw [decide_eq_true h4]
      have hz:decide ((⟨y,to,f,b,p⟩:Sl) ∈ l)=true:=by
       refine decide_eq_true (hin.2 (.inl ?_))
       rw [h1,h2,h3.1,h3.2,pCmp_z h4]
      rw [hz] at hQ
      refine hK _ (Aw_yes rfl ?_)
      refine Aw_st hE [4] [3] fun K hK=>?_
      simp only [go_sem,seval]
      refine hK _ (Aw_ret (hR7 _ (hR6 _ (hR3 _ (hR2 _ (hR1 _ (hQ _ ?_)))))))
      simp only [go_sem,seval]
     ·rw [decide_eq_false h4]
      have hin':=hbad (by simp only [Sl.mk.injEq];intro h;obtain ⟨_,_,_,_,h⟩:=h;rw [h] at h4;exact h4 (pCmp_rS _))
      refine hK _ (Aw_no rfl (Aw_skip (hN7 _ (hB6 _ ?_))))
      refine Aw_tx hE [0,3,5] [3] fun K hK=>?_
      simp only [go_sem,seval]
      repeat refine sd0 ?_
      exact hK _ (hN3 (i + 1) _ ⟨by omega,hin'⟩ (by omega) (Le.refl _))
    ·have hin':=hbad (by simp only [Sl.mk.injEq];intro h;obtain ⟨_,_,q1,q2,_⟩:=h;simp [q1,q2] at h3)
     refine hK _ (Aw_no rfl (Aw_skip (hN7 _ (hB6 _ ?_))))
     refine Aw_tx hE [0,3,5] [3] fun K hK=>?_
     simp only [go_sem,seval]
     repeat refine sd0 ?_
     exact hK _ (hN3 (i + 1) _ ⟨by omega,hin'⟩ (by omega) (Le.refl _))
   ·have d2:decide (xt=to)=false:=decide_eq_false h2
    have hin':=hbad (by simp only [Sl.mk.injEq];exact fun h=>h2 h.2.1.symm)
    refine Aw_sd hE [0,3,5,50] [3] 6 (by kernel_rfl) fun K hK=>?_
    simp only [go_sem,seval,hg,d1,d2]
    refine ⟨by omega,by omega,?_⟩
    refine hK _ (Aw_no rfl (Aw_skip (hN7 _ (hB6 _ ?_))))
    refine Aw_tx hE [0,3,5] [3] fun K hK=>?_
    simp only [go_sem,seval]
    repeat refine sd0 ?_
    exact hK _ (hN3 (i + 1) _ ⟨by omega,hin'⟩ (by omega) (Le.refl _))
  ·have d1:decide (xy=y)=false:=decide_eq_false h1
   have hin':=hbad (by simp only [Sl.mk.injEq];exact fun h=>h1 h.1.symm)
   refine Aw_sd hE [0,3,5,50] [3] 6 (by kernel_rfl) fun K hK=>?_
   simp only [go_sem,seval,hg,d1]
   refine ⟨by omega,?_⟩
   refine hK _ (Aw_no rfl (Aw_skip (hN7 _ (hB6 _ ?_))))
   refine Aw_tx hE [0,3,5] [3] fun K hK=>?_
   simp only [go_sem,seval]
   repeat refine sd0 ?_
   exact hK _ (hN3 (i + 1) _ ⟨by omega,hin'⟩ (by omega) (Le.refl _))
 ·simp only [dfn] at hc5
  rw [List.drop_eq_nil_of_le (by omega)] at hin
  have hz:decide ((⟨y,to,f,b,p⟩:Sl) ∈ l)=false:=decide_eq_false fun h=>by simpa using hin.1 h
  rw [hz] at hQ
  refine Aw_exit (hX4 _ _ (hX3 _ _ (hE2 _ (hB1 _ ?_))))
  refine Aw_st hE [4] [3] fun K hK=>?_
  simp only [go_sem,seval]
  refine hK _ (Aw_ret (hQ _ ?_))
  simp only [go_sem,seval]
theorem sLacks_ok:Fine Tryd.prog 12 dLk.con:=by
 refine fine_det (T:=TT) Tryd.func12 rfl Tryd.ntmps12 (by rw [Tryd.results12]) rfl rfl tt gs_nil (ds_cons sRtOk_ok (ds_cons sIsH_ok (ds_cons has3_ok (ds_cons sHolds_ok (ds_cons l13Of_ok (ds_cons slHas_ok ds_nil)))))) ?_
 intro args c r h hc
 simp only [dLk,gLk] at h
 split at h
 rotate_left
 ·cases h
 split at h
 rotate_left
 ·cases h
 rename_i th eh ts es rf rb t1 e1 rk t2 e2 to _ _ _ _ H l p m hds hsl hl1 hl2
 obtain rfl:=hdsL_eq hds
 obtain rfl:=slsL_eq hsl
 obtain rfl:=intsL_eq hl1
 obtain rfl:=intsL_eq hl2
 obtain ⟨rfl,rfl⟩:=Prod.mk.inj (Option.some.inj h)
 refine ⟨by simp,fun k E hE Q hQ=>?_⟩
 obtain ⟨⟨hHl,hll,hls⟩,hpl,hml⟩:=hc
 have hln:p.length≤4294967296∧m.length≤4294967296:=by omega
 have hp4:p.length≤4294967296:=hln.1
 refine Aw_st hE [0,1,3,6] [6] fun K hK=>?_
 simp only [go_sem,seval]
 refine hK _ ?_;clear hK K
 refine Aw.le (st':=⟨56,[(0,.sl none (hrows H)),(1,.sl none (srows l)),(3,iv to),(6,.loc 6 0)],[(6,[iv rf,iv rb,isl p,iv rk,isl m])],k⟩) (Le_wk (Nat.le_refl _) (by simp only [go_sem,seval];try exact ⟨rfl,rfl⟩) (by simp only [go_sem,seval];try exact ⟨rfl,rfl⟩)) ?_
 refine Aw_sq fun B1 hB1 hR1 hX1=>?_
 cases hmk:makeOk ⟨rf,rb,p,rk,m⟩ to with
 | false =>
  have hz:lacks H l ⟨rf,rb,p,rk,m⟩ to = -2:=by unfold lacks;rw [hmk];rfl
  rw [hz] at hQ
  have hmk2:(!rtOk rf rb p rk m || (!isH to || p.contains to))=true:=by
   simp only [makeOk,okR] at hmk
   revert hmk
   cases rtOk rf rb p rk m<;>cases isH to<;>cases p.contains to<;>simp
  cases h1:rtOk rf rb p rk m with
  | false =>
   refine Aw_st hE [0,1,3,6,23] [6] fun K hK=>?_
   simp only [go_sem,seval,h1]
   refine ⟨hln,?_⟩
   refine hK _ (Aw_yes rfl ?_)
   refine Aw_st hE [8] [6] fun K hK=>?_
   simp only [go_sem,seval]
   refine hK _ (Aw_ret (hR1 _ (hQ _ ?_)))
   simp only [go_sem,seval]
  | true =>
   rw [h1,Bool.not_true,Bool.false_or] at hmk2
   refine Aw_st hE [0,1,3,6,23] [6] fun K hK=>?_
   simp only [go_sem,seval,h1]
   refine ⟨hln,fun h2=>?_,fun h2=>⟨hp4,?_⟩⟩
   ·refine hK _ (Aw_yes rfl ?_)
    refine Aw_st hE [8] [6] fun K hK=>?_
    simp only [go_sem,seval]
    refine hK _ (Aw_ret (hR1 _ (hQ _ ?_)))
    simp only [go_sem,seval]
   ·rw [show p.contains to=true by simpa [h2] using hmk2]
    refine hK _ (Aw_yes rfl ?_)
    refine Aw_st hE [8] [6] fun K hK=>?_
    simp only [go_sem,seval]
    refine hK _ (Aw_ret (hR1 _ (hQ _ ?_)))
    simp only [go_sem,seval]
 | true =>
  have hmk':=hmk
  simp only [makeOk,Bool.and_eq_true,Bool.not_eq_true'] at hmk'
  obtain ⟨⟨hok,hih⟩,hct⟩:=hmk'
  have hro:rtOk rf rb p rk m=true:=hok
  obtain ⟨_,hp0,_,_⟩:=okR_parts hok
  simp only at hp0
  have hsl0:=mkS_len rf rb p to
  refine Aw_st hE [0,1,3,6,23] [6] fun K hK=>?_
  simp only [go_sem,seval,hro,hih,hct]
  refine ⟨hln,hp4,hK _ (Aw_no rfl (Aw_skip (hB1 _ ?_)))⟩
  refine Aw_sq fun B3 hB3 hR3 hX3=>?_
  have hlg:=last_get hp0
  cases hh:holdB H (lastI p) rf rb with
  | false =>
   have hz2:lacks H l ⟨rf,rb,p,rk,m⟩ to = -1:=by unfold lacks;rw [hmk];simp only [if_true];rw [hh];rfl
   rw [hz2] at hQ
   refine Aw_sd hE [1,3,6,36] [6] 6 (by kernel_rfl) fun K hK=>?_
   simp only [go_sem,seval,hlg,hh]
   refine ⟨⟨by omega,by omega⟩,by omega,hHl,?_⟩
   refine hK _ (Aw_yes rfl ?_)
   refine Aw_st hE [8] [6] fun K hK=>?_
   simp only [go_sem,seval]
   refine hK _ (Aw_ret (hR3 _ (hQ _ ?_)))
   simp only [go_sem,seval]
  | true =>
   have hz2:lacks H l ⟨rf,rb,p,rk,m⟩ to=lacksF l (mkS rf rb to p):=by unfold lacks;rw [hmk];simp only [if_true];rw [hh];rfl
   rw [hz2] at hQ
   refine Aw_sd hE [1,3,6,36] [6] 6 (by kernel_rfl) fun K hK=>?_
   simp only [go_sem,seval,hlg,hh]
   refine ⟨⟨by omega,by omega⟩,by omega,hHl,?_⟩
   refine hK _ (Aw_no rfl (Aw_skip (hB3 _ ?_)))
   refine Aw_sq fun B5 hB5 hR5 hX5=>?_
   refine Aw_st hE [1,3,6,9] [6] fun K hK=>?_
   simp only [go_sem,seval]
   refine hK _ ?_;clear hK K
   refine Aw_bk fun B6 hN6 hE6 hR6 hX6=>?_
   refine Aw_lp (fun i:Nat=>⟨56,[(1,.sl none (srows l)),(3,iv to),(6,.loc 6 0),(9,iv i)],[(6,[iv rf,iv rb,isl p,iv rk,isl m])],k⟩) (fun i=>i≤p.length∧∀ s ∈ (mkS rf rb to p).take i,s ∈ l) (fun i=>p.length - i) 0 (Le.refl _) ⟨by omega,by simp⟩ fun i hi B7 hN7 hR7 hX7=>?_
   obtain ⟨hi,hin⟩:=hi
   have hdr:=lacksF_drop (by omega) hin
   refine Aw_sq fun B8 hB8 hR8 hX8=>?_
   refine Aw_st hE [1,3,6,9,41] [6] fun K hK=>?_
   simp only [go_sem,seval]
   refine hK _ (Aw_cond rfl (fun hc9=>?_) (fun hc9=>?_))
   ·simp only [dte] at hc9
    have hil:i < p.length:=by omega
    have hst:=mkS_take (f:=rf) (b:=rb) (to:=to) hil
    have hgd:p.getD i 0=p[i]:=by simp [List.getD_eq_getElem?_getD,hil]
    have hgp:=rows_get p i hil
    rw [List.drop_eq_getElem_cons (by omega),lacksF] at hdr
    have hge:=mkS_get rf rb p to i hil
    rw [List.getElem?_eq_getElem (by omega)] at hge
    rw [Option.some.inj hge] at hdr
    refine Aw_skip (hB8 _ ?_)
    refine Aw_sq fun B10 hB10 hR10 hX10=>?_
    refine Aw_bk fun B11 hN11 hE11 hR11 hX11=>?_
    refine Aw_st hE [1,3,6,9,50] [6] fun K hK=>?_
    simp only [go_sem,seval]
    refine ⟨⟨hpl,hml,by omega,by omega⟩,⟨hll,fun s hs=>(hls s hs).1,by rw [List.length_drop];omega⟩,?_⟩
    rw [hgd]
    have hdr':lacksF l (mkS rf rb to p)=if (⟨p[i],prevI to p i,rf,rb,p.drop i⟩:Sl) ∈ l then lacksF l (List.drop (i + 1) (mkS rf rb to p)) else p[i]:=hdr
    by_cases hm:(⟨p[i],prevI to p i,rf,rb,p.drop i⟩:Sl) ∈ l
    ·rw [decide_eq_true hm]
     refine hK _ (Aw_no rfl (Aw_skip (hN11 _ (hB10 _ ?_))))
     refine Aw_tx hE [1,3,6,9] [6] fun K hK=>?_
     simp only [go_sem,seval]
     repeat refine sd0 ?_
     refine hK _ (hN7 (i + 1) _ ⟨by omega,fun s hs=>?_⟩ (by omega) (Le.refl _))
     rw [hst] at hs
     rcases List.mem_append.1 hs with hs | hs
     ·exact hin s hs
     ·rw [List.mem_singleton.1 hs];exact hm
    ·rw [decide_eq_false hm]
     rw [if_neg hm] at hdr'
     rw [hdr'] at hQ
     refine hK _ (Aw_yes rfl ?_)
     refine Aw_st hE [8] [6] fun K hK=>?_
     simp only [go_sem,seval,hgp,hgd]
     refine ⟨by omega,hK _ (Aw_ret (hR11 _ (hR10 _ (hR7 _ (hR6 _ (hR5 _ (hQ _ ?_)))))))⟩
     simp only [go_sem,seval]
   ·simp only [dfn] at hc9
    rw [List.drop_eq_nil_of_le (by omega)] at hdr
    rw [hdr] at hQ
    refine Aw_exit (hX8 _ _ (hX7 _ _ (hE6 _ (hB5 _ ?_))))
    refine Aw_st hE [8] [6] fun K hK=>?_
    simp only [go_sem,seval]
    refine hK _ (Aw_ret (hQ _ ?_))
    simp only [go_sem,seval,lacksF]
theorem sSealOk_ok:Fine Tryd.prog 6 dSOk.con:=by
 refine fine_det (T:=TT) Tryd.func6 rfl Tryd.ntmps6 (by rw [Tryd.results6]) rfl rfl tt gs_nil (ds_cons sLacks_ok ds_nil) ?_
 intro args c r h hc
 simp only [dSOk,gSOk] at h
 split at h
 rotate_left
 ·cases h
 split at h
 rotate_left
 ·cases h
 rename_i th eh ts es rf rb t1 e1 rk t2 e2 to _ _ _ _ H l p m hds hsl hl1 hl2
 obtain rfl:=hdsL_eq hds
 obtain rfl:=slsL_eq hsl
 obtain rfl:=intsL_eq hl1
 obtain rfl:=intsL_eq hl2
 obtain ⟨rfl,rfl⟩:=Prod.mk.inj (Option.some.inj h)
 refine ⟨by simp,fun k E hE Q hQ=>?_⟩
 refine Aw_st hE [0,1,3,6] [6] fun K hK=>?_
 simp only [go_sem,seval]
 refine hK _ ?_;clear hK K
 refine Aw_st hE [8] [6] fun K hK=>?_
 simp only [go_sem,seval]
 refine ⟨hc,?_⟩
 refine hK _ (Aw_ret (hQ _ ?_))
 simp only [go_sem,seval]
theorem Le_ES {E:En} {st st':St} (h:Le st st'):LeE E st st':=fun a w hr=>h E a w hr
def cHds:Con:={ pre:=fun args=>args=[.rd],post:=fun _ r=>∃ H:List Hd,H.length≤4∧r = .sl (some (0,0,58)) (hrows H),cost:=45,draws:=true,own:=true }
theorem cHds_own:cHds.own=true:=rfl
theorem cHds_draws:cHds.draws=true:=rfl
theorem cHds_cost:cHds.cost=45:=rfl
attribute [go_sem] cHds_own cHds_draws cHds_cost
theorem hds_pre:cHds.pre [.rd]=True:=by simp [cHds]
theorem hds_post (args:List AV) (K:AV→Prop):(∀ r,cHds.post args r→K r)=(∀ H:List Hd,H.length≤4→K (.sl (some (0,0,58)) (hrows H))):=by
 apply propext
 exact ⟨fun h p hp=>h _ ⟨p,hp,rfl⟩,fun h r ⟨p,hp,e⟩=>e ▸ h p hp⟩
theorem hds_ex (args:List AV):(∃ r,cHds.post args r)=True:=eq_true ⟨_,[],by simp,rfl⟩
attribute [go_sem] hds_pre hds_post hds_ex
def hdS (H:List Hd) (n:Int) (rn:Nat):St:=⟨22,[(0,.rd),(3,.sl (some (5,0,58)) (hrows H)),(4,iv n)],[],rn⟩
theorem l92Holds_ok:Fine Tryd.prog 22 cHds:=by
 refine fine_ofX [] gl_nil [] ms_nil [] mm_nil [] [] ex_nil (T:=TT) Tryd.func22 rfl Tryd.ntmps22 (by rw [Tryd.results22]) rfl rfl tt (gs_cons pick_ok (gs_cons l91Range_ok gs_nil)) ds_nil ?_
 rintro args rfl
 refine ⟨by simp,fun k hk E hE Q hQ=>?_⟩
 have hk:=hk rfl
 simp only [go_sem] at hk
 refine Aw_st hE [0] [] fun K hK=>?_
 simp only [go_sem,seval]
 refine hK _ ?_;clear hK K
 refine Aw_st hE [0,3] [] fun K hK=>?_
 simp only [go_sem,seval]
 refine hK _ ?_;clear hK K
 refine Aw_sq fun B1 hB1 hR1 hX1=>?_
 refine Aw_st hE [0,3,4] [] fun K hK=>?_
 simp only [go_sem,seval]
 repeat' (first | (refine And.intro (by first | omega | decide) ?_) | intro)
 rename_i n0 hn1 hn2
 refine hK _ ?_;clear hK K
 refine Aw_bk fun B2 hN2 hE2 hR2 hX2=>?_
 refine Aw_lp (fun i:List Hd × Int=>hdS i.1 i.2 (k + 40 - 9 * i.2.toNat)) (fun i=>0≤i.2∧i.1.length + i.2≤4) (fun i=>i.2.toNat) ([],n0) (Le_rn (by simp only;omega)) ⟨by omega,by simp;omega⟩ fun i hi B3 hN3 hR3 hX3=>?_
 obtain ⟨l,n⟩:=i
 obtain ⟨hn1,hn2⟩:=hi
 simp only at hn1 hn2
 simp only [hdS]
 refine Aw_sq fun B4 hB4 hR4 hX4=>?_
 refine Aw_st hE [0,3,4,9] [] fun K hK=>?_
 simp only [go_sem,seval]
 refine hK _ (Aw_cond rfl (fun hc5=>?_) (fun hc5=>?_))
 ·simp only [dte] at hc5
  refine Aw_skip (hB4 _ ?_)
  refine Aw_sq fun B6 hB6 hR6 hX6=>?_
  refine Aw_bk fun B7 hN7 hE7 hR7 hX7=>?_
  refine Aw_tx hE [0,3,4] [] fun K hK=>?_
  simp only [go_sem,seval,hrows_one]
  refine ⟨by omega,fun v hv1 hv2=>⟨⟨by omega,by omega⟩,by omega,fun f b _=>⟨⟨hrows_row _,by omega⟩,?_⟩⟩⟩
  refine hK _ (hN7 _ (hB6 _ ?_))
  refine Aw_tx hE [0,3,4] [] fun K hK=>?_
  simp only [go_sem,seval]
  repeat refine sd0 ?_
  refine hK _ (hN3 (l++[⟨1 + v,f,b⟩],n - 1) _ ⟨by simp only;omega,by simp only [List.length_append,List.length_singleton];omega⟩ (by simp only;omega) ?_)
  exact (Le_tk 20 5 rfl).trans (Le_rn (by simp only;omega))
 ·simp only [dfn] at hc5
  refine Aw_exit (hX4 _ _ (hX3 _ _ (hE2 _ (hB1 _ ?_))))
  refine Aw_st hE [2] [] fun K hK=>?_
  simp only [go_sem,seval]
  refine hK _ (Aw_ret (hQ _ ?_))
  simp only [go_sem,seval]
  exact ⟨by omega,l,by omega,rfl⟩
theorem sealL_len (r:Rt) (to:Int):(sealL r to).length≤r.path.length:=by
 unfold sealL
 split
 ·rw [mkS_len];omega
 ·simp
theorem sealL_ok {r:Rt} (to:Int) (h:r.path.length≤1000):sOkL (sealL r to):=fun s hs=>by
 unfold sealL at hs
 split at hs
 ·rename_i hm
  simp only [makeOk,Bool.and_eq_true] at hm
  obtain ⟨_,_,hpo,_⟩:=okR_parts hm.1.1
  obtain ⟨h1,h2⟩:=mkS_mem hs
  exact ⟨by omega,fun x hx=>pathOk_h hpo x (h1 x hx)⟩
 ·cases hs
def sldP (H:List Hd) (l:List Sl) (r:Rt):Prop:=H.length≤5∧(l.length≤16∧sOkL l)∧r.path.length≤8∧r.marks.length≤16
def cSld:Con:={ pre:=fun args=>args=[.rd],post:=fun _ r=>∃ (H:List Hd) (l:List Sl) (x:Rt) (to:Int),(sldP H l x∧1≤to∧to≤5)∧r = .tup [.sl none (hrows H),.sl none (srows l),x.av,iv to],cost:=160,draws:=true }
theorem cSld_own:cSld.own=false:=rfl
theorem cSld_draws:cSld.draws=true:=rfl
theorem cSld_cost:cSld.cost=160:=rfl
attribute [go_sem] cSld_own cSld_draws cSld_cost
theorem sld_pre:cSld.pre [.rd]=True:=by simp [cSld]
theorem sld_post (args:List AV) (K:AV→Prop):(∀ r,cSld.post args r→K r)=(∀ (H:List Hd) (l:List Sl) (x:Rt) (to:Int),(sldP H l x∧1≤to∧to≤5)→K (.tup [.sl none (hrows H),.sl none (srows l),x.av,iv to])):=by
 apply propext
 exact ⟨fun h a b c d hp=>h _ ⟨a,b,c,d,hp,rfl⟩,fun h r ⟨a,b,c,d,hp,e⟩=>e ▸ h a b c d hp⟩
theorem sld_ex (args:List AV):(∃ r,cSld.post args r)=True:=eq_true ⟨_,[],[],⟨0,0,[],0,[]⟩,1,by simp [sldP,sOkL],rfl⟩
attribute [go_sem] sld_pre sld_post sld_ex
set_option maxHeartbeats 8000000 in
theorem l92Sealed_ok:Fine Tryd.prog 9 cSld:=by
 refine fine_ofX [] gl_nil [] ms_nil [] mm_nil [] [] ex_nil (T:=TT) Tryd.func9 rfl Tryd.ntmps9 (by rw [Tryd.results9]) rfl rfl tt (gs_cons pick_ok (gs_cons l91Route_ok (gs_cons l92Holds_ok gs_nil))) (ds_cons has3_ok (ds_cons sMake_ok ds_nil)) ?_
 rintro args rfl
 refine ⟨by simp,fun k hk E hE Q hQ=>?_⟩
 have hk:=hk rfl
 simp only [go_sem] at hk
 refine Aw_st hE [0,4] [4,6,11] fun K hK=>?_
 simp only [go_sem,seval]
 refine hK _ ?_;clear hK K
 refine Aw_st hE [0,4,6] [4,6,11] fun K hK=>?_
 simp only [go_sem,seval]
 repeat' (first | (refine And.intro (by first | omega | decide) ?_) | intro)
 rename_i x hx
 obtain ⟨_,hx1,_,_,_,hx2⟩:=hx
 obtain ⟨rf,rb,p,rk,m⟩:=x
 simp only at hx1 hx2
 refine hK _ ?_;clear hK K
 refine Aw_st hE [0,4,6,7] [4,6,11] fun K hK=>?_
 simp only [go_sem,seval]
 repeat' (first | (refine And.intro (by first | omega | decide) ?_) | intro)
 rename_i t0 ht1 ht2
 refine hK _ ?_;clear hK K
 refine Aw_sq fun B1 hB1 hR1 hX1=>?_
 refine Aw_st hE [0,4,6,7,8] [4,6,11] fun K hK=>?_
 simp only [go_sem,seval]
 refine hK _ ?_;clear hK K
 refine Aw_bk fun B2 hN2 hE2 hR2 hX2=>?_
 refine Aw_lp (fun i:Int × Nat=>⟨108,[(0,.rd),(4,.loc 4 0),(6,.loc 6 0),(7,iv i.1),(8,iv i.2)],[(4,[iv 0,iv 0,.nl,iv 0,.nl]),(6,[iv rf,iv rb,isl p,iv rk,isl m])],k + 42 + i.2⟩) (fun i=>(1≤i.1∧i.1≤5)∧i.2≤6) (fun i=>6 - i.2) (1 + t0,0) (Le_rn (by simp only;omega)) ⟨by simp only;omega,by simp only;omega⟩ fun i hi B3 hN3 hR3 hX3=>?_
 obtain ⟨to,n⟩:=i
 obtain ⟨hto,hn⟩:=hi
 simp only at hto hn
 refine Aw_sq fun B4 hB4 hR4 hX4=>?_
 have hp4:p.length≤4294967296:=by omega
 have hexit:∀ st:St,Le st ⟨108,[(0,.rd),(4,.loc 4 0),(6,.loc 6 0),(7,iv to)],[(4,[iv 0,iv 0,.nl,iv 0,.nl]),(6,[iv rf,iv rb,isl p,iv rk,isl m])],k + 48⟩→B1 .normal st:=fun st hle=>by
  refine hB1 _ (Aw.le hle ?_)
  clear hle hB1 hR1 hX1 hN2 hE2 hR2 hX2 hN3 hR3 hX3 hB4 hR4 hX4 hn
  have hS1:=sealL_len ⟨rf,rb,p,rk,m⟩ to
  have hS2:=sealL_ok (r:=⟨rf,rb,p,rk,m⟩) to (by simp only;omega)
  simp only at hS1
  refine Aw_st hE [0,4,6,7,9] [4,6,11] fun K hK=>?_
  simp only [go_sem,seval]
  refine ⟨⟨by omega,by omega⟩,?_⟩
  generalize sealL ⟨rf,rb,p,rk,m⟩ to=S at hS1 hS2 ⊢
  refine hK _ ?_;clear hK K
  refine Aw_st hE [0,4,6,7,9,10] [4,6,11] fun K hK=>?_
  simp only [go_sem,seval]
  repeat' (first | (refine And.intro (by first | omega | decide) ?_) | intro)
  rename_i H0 hH0
  refine hK _ ?_;clear hK K
  refine Aw_sqJ (fun H:List Hd=>⟨108,[(0,.rd),(4,.loc 4 0),(6,.loc 6 0),(7,iv to),(9,.sl (some (33,0,37)) (srows S)),(10,.sl none (hrows H))],[(4,[iv 0,iv 0,.nl,iv 0,.nl]),(6,[iv rf,iv rb,isl p,iv rk,isl m])],k + 94⟩) (fun H=>H.length≤5) (fun H hH=>?_) fun B8 hB8 hR8 hX8=>?_
  ·refine Aw_st hE [0,4,6,7,9,10,11] [4,6,11] fun K hK=>?_
   simp only [go_sem,seval]
   repeat' (first | (refine And.intro (by first | omega | decide) ?_) | intro)
   rename_i x hx
   obtain ⟨_,hy1,_,_,_,hy2⟩:=hx
   obtain ⟨yf,yb,yp,yk,ym⟩:=x
   simp only at hy1 hy2
   refine hK _ ?_;clear hK K
   refine Aw_sd hE [0,4,6,7,9,10] [4,6,11] 6 (by kernel_rfl) fun K hK=>?_
   simp only [go_sem,seval]
   refine ⟨by omega,fun v hv1 hv2=>?_⟩
   have hZ1:=sealL_len ⟨yf,yb,yp,yk,ym⟩ (1 + v)
   have hZ2:=sealL_ok (r:=⟨yf,yb,yp,yk,ym⟩) (1 + v) (by simp only;omega)
   simp only at hZ1
   generalize sealL ⟨yf,yb,yp,yk,ym⟩ (1 + v)=Z at hZ1 hZ2 ⊢
   refine ⟨⟨by omega,by omega⟩,⟨by omega,by omega⟩,⟨srows_row _,by omega⟩,?_⟩
   have hL1:(S++Z).length≤16:=by rw [List.length_append];omega
   have hL2:sOkL (S++Z):=fun s hs=>(List.mem_append.1 hs).elim (hS2 s) (hZ2 s)
   generalize S++Z=L at hL1 hL2 ⊢
   refine hK _ ?_;clear hK K
   refine Aw_sqJ (fun q:List Sl × List Int × Int=>⟨108,[(4,.loc 4 0),(6,.loc 6 0),(7,iv q.2.2),(9,.sl none (srows q.1)),(10,.sl none (hrows H))],[(4,[iv 0,iv 0,.nl,iv 0,.nl]),(6,[iv rf,iv rb,isl q.2.1,iv rk,isl m])],k + 145⟩) (fun q=>(q.1.length≤16∧sOkL q.1)∧q.2.1.length≤8∧1≤q.2.2∧q.2.2≤5) (fun q hq=>?_) fun B13 hB13 hR13 hX13=>?_
   ·obtain ⟨L,p,to⟩:=q
    obtain ⟨hq1,hq2,hq3,hq4⟩:=hq
    simp only at hq1 hq2 hq3 hq4
    refine Aw_se hE [0,1,3,4,5,2,6,7] [0,0,0,0,1,19,55,127] [2,3,4,5] [4,6,11] (by kernel_rfl) fun K hK=>?_
    simp only [go_sem,seval]
    refine hK _ (Aw_ret (hQ _ ?_))
    simp only [go_sem,seval]
    exact ⟨by omega,H,L,⟨rf,rb,p,rk,m⟩,to,⟨⟨hH,hq1,hq2,by simp only;omega⟩,hq3,hq4⟩,rfl⟩
   refine Aw_st hE [0,4,6,7,9,10,69] [4,6,11] fun K hK=>?_
   simp only [go_sem,seval]
   repeat' (first | (refine And.intro (by first | omega | decide) ?_) | intro)
   rename_i w hw1 hw2
   refine hK _ ?_;clear hK K
   refine Aw_bk fun B14 hN14 hE14 hR14 hX14=>?_
   refine Aw_st hE [0,4,6,7,9,10,69,70] [4,6,11] fun K hK=>?_
   simp only [go_sem,seval]
   refine hK _ (Aw_cond rfl (fun hc3=>?_) (fun hc3=>?_))
   ·refine Aw_st hE [0,4,6,7,9,10,74] [4,6,11] fun K hK=>?_
    simp only [go_sem,seval]
    refine hK _ (Aw_cond rfl (fun hc4=>?_) (fun hc4=>?_))
    ·simp only [dte] at hc4
     refine Aw_st hE [4,6,7,9,10,12] [4,6,11] fun K hK=>?_
     simp only [go_sem,seval]
     repeat' (first | (refine And.intro (by first | omega | decide) ?_) | intro)
     rename_i u hu1 hu2
     refine hK _ ?_;clear hK K
     refine Aw_tS hE (.fst 1 (.fst 2 (.fst 5 (.fst 6 (.alt 0 (.alt 3 (.alt 4 (.alt 7 (.alt 8 (.alt 9 (.fst 10 .done) .non) .non) .non) (.alt 7 (.alt 4 (.alt 8 (.alt 9 (.fst 10 .done) .non) .non) (.alt 8 (.alt 4 (.alt 9 (.fst 10 .done) .non) .non) .non)) .non)) (.alt 7 (.alt 3 (.alt 4 (.alt 8 (.alt 9 (.fst 10 .done) .non) .non) (.alt 8 (.alt 4 (.alt 9 (.fst 10 .done) .non) .non) .non)) (.alt 8 (.alt 3 (.alt 4 (.alt 9 (.fst 10 .done) .non) .non) .non) .non)) .non)) (.alt 3 (.alt 0 (.alt 4 (.alt 7 (.alt 8 (.alt 9 (.fst 10 .done) .non) .non) .non) (.alt 7 (.alt 4 (.alt 8 (.alt 9 (.fst 10 .done) .non) .non) (.alt 8 (.alt 4 (.alt 9 (.fst 10 .done) .non) .non) .non)) .non)) (.alt 7 (.alt 0 (.alt 4 (.alt 8 (.alt 9 (.fst 10 .done) .non) .non) (.alt 8 (.alt 4 (.alt 9 (.fst 10 .done) .non) .non) .non)) (.alt 8 (.alt 0 (.alt 4 (.alt 9 (.fst 10 .done) .non) .non) .non) .non)) .non)) (.alt 7 (.alt 0 (.alt 3 (.alt 4 (.alt 8 (.alt 9 (.fst 10 .done) .non) .non) (.alt 8 (.alt 4 (.alt 9 (.fst 10 .done) .non) .non) .non)) (.alt 8 (.alt 3 (.alt 4 (.alt 9 (.fst 10 .done) .non) .non) .non) .non)) (.alt 3 (.alt 0 (.alt 4 (.alt 8 (.alt 9 (.fst 10 .done) .non) .non) (.alt 8 (.alt 4 (.alt 9 (.fst 10 .done) .non) .non) .non)) (.alt 8 (.alt 0 (.alt 4 (.alt 9 (.fst 10 .done) .non) .non) .non) .non)) (.alt 8 (.alt 0 (.alt 3 (.alt 4 (.alt 9 (.fst 10 .done) .non) .non) .non) (.alt 3 (.alt 0 (.alt 4 (.alt 9 (.fst 10 .done) .non) .non) .non) .non)) .non))) .non))))))) [4,6,7,9,10] [4,6,11] (by kernel_rfl) fun K hK=>?_
     simp only [go_sem,seval]
     have w1:∀ row:List DV,row ∈ srows L→row.length=5:=srows_row _
     have w2:∀ row:List DV,row ∈ List.take u.toNat (srows L)→row.length=5:=fun row h=>w1 row (List.mem_of_mem_take h)
     have w3:∀ row:List DV,row ∈ List.take u.toNat (srows L)++List.drop (u + 1).toNat (List.take L.length (srows L))→row.length=5:=fun row h=>(List.mem_append.1 h).elim (w2 row) fun h=>w1 row (List.mem_of_mem_take (List.mem_of_mem_drop h))
     have w4:(List.take u.toNat (srows L)).length≤4294967296:=by rw [List.length_take];omega
     have w5:(List.take u.toNat (srows L)).length + (List.drop (u + 1).toNat (List.take L.length (srows L))).length≤4294967296:=by rw [List.length_drop,List.length_take,List.length_take,srows_len];omega
     have w7:u≤(L.length:Int):=by omega
     have w8:0≤u + 1:=by omega
     have w9:u + 1≤(L.length:Int):=by omega
     have w10 : -9223372036854775808≤u + 1:=by omega
     have w11:u + 1≤9223372036854775807:=by omega
     simp only [eq_true w1,eq_true w2,eq_true w3,eq_true w4,eq_true w5,eq_true hu1,eq_true w7,eq_true w8,eq_true w9,eq_true w10,eq_true w11,true_and,and_true,and_self,Int.le_refl]
     obtain ⟨i,rfl⟩:∃ i:Nat,u=i:=⟨u.toNat,by omega⟩
     have hT1:((i:Int) + 1).toNat=i + 1:=by omega
     rw [hT1,Int.toNat_natCast,List.take_of_length_le (Nat.le_of_eq (srows_len L)),show List.take i (srows L)++List.drop (i + 1) (srows L)=srows (L.take i++L.drop (i + 1)) by simp only [srows,List.map_append,List.map_take,List.map_drop]]
     refine hK _ (hN14 _ (hB13 (L.take i++L.drop (i + 1),p,to) _ ⟨⟨by simp only [List.length_append,List.length_take,List.length_drop];omega,fun s hs=>hL2 s ((List.mem_append.1 hs).elim List.mem_of_mem_take List.mem_of_mem_drop)⟩,by simp only;omega,by simp only;omega⟩ (Le_ES (Le_wk (by omega) (by simp only [go_sem,seval]) (by simp only [go_sem,seval])))))
    ·refine Aw_skip (hN14 _ (hB13 (L,p,to) _ ⟨⟨hL1,hL2⟩,by simp only;omega,by simp only;omega⟩ (Le_ES (Le_wk (by omega) (by simp only [go_sem,seval]) (by simp only [go_sem,seval])))))
   ·refine Aw_st hE [0,4,6,7,9,10,69,89] [4,6,11] fun K hK=>?_
    simp only [go_sem,seval]
    refine hK _ (Aw_cond rfl (fun hc4=>?_) (fun hc4=>?_))
    ·refine Aw_st hE [4,6,7,9,10,94] [4,6,11] fun K hK=>?_
     simp only [go_sem,seval]
     refine hK _ (Aw_cond rfl (fun hc5=>?_) (fun hc5=>?_))
     ·simp only [dte] at hc5
      refine Aw_tx hE [4,6,7,9,10] [4,6,11] fun K hK=>?_
      simp only [go_sem,seval]
      refine ⟨⟨by omega,by omega,rows_row _⟩,?_⟩
      rw [List.take_length]
      refine hK _ (hN14 _ (hB13 (L,p.drop 1,to) _ ⟨⟨hL1,hL2⟩,by simp only [List.length_drop];omega,by simp only;omega⟩ (Le_ES (Le_wk (by omega) (by simp only [go_sem,seval]) (by simp only [go_sem,seval])))))
     ·refine Aw_skip (hN14 _ (hB13 (L,p,to) _ ⟨⟨hL1,hL2⟩,by simp only;omega,by simp only;omega⟩ (Le_ES (Le_wk (by omega) (by simp only [go_sem,seval]) (by simp only [go_sem,seval])))))
    ·refine Aw_st hE [0,4,6,7,9,10,99] [4,6,11] fun K hK=>?_
     simp only [go_sem,seval]
     refine hK _ (Aw_cond rfl (fun hc5=>?_) (fun hc5=>?_))
     ·refine Aw_tx hE [4,6,7,9,10] [4,6,11] fun K hK=>?_
      simp only [go_sem,seval]
      repeat' (first | (refine And.intro (by first | omega | decide) ?_) | intro)
      rename_i u hu1 hu2
      refine hK _ (hN14 _ (hB13 (L,p,1 + u) _ ⟨⟨hL1,hL2⟩,by simp only;omega,by simp only;omega⟩ (Le_ES (Le_wk (by omega) (by simp only [go_sem,seval]) (by simp only [go_sem,seval])))))
     ·refine Aw_skip (hN14 _ (hB13 (L,p,to) _ ⟨⟨hL1,hL2⟩,by simp only;omega,by simp only;omega⟩ (Le_ES (Le_wk (by omega) (by simp only [go_sem,seval]) (by simp only [go_sem,seval])))))
  ·by_cases hp0:0 < (p.length:Int)
   ·have d1:decide (0 < (p.length:Int))=true:=decide_eq_true hp0
    refine Aw_st hE [0,4,6,7,9,10,44] [4,6,11] fun K hK=>?_
    simp only [go_sem,seval,d1]
    repeat' (first | (refine And.intro (by first | omega | decide) ?_) | intro)
    refine hK _ (Aw_cond rfl (fun hc9=>?_) (fun hc9=>?_))
    ·have hlg:=last_get (p:=p) (by omega)
     apply (fun F0 F1 F2 F3 F4 F5 F6 F7 F8 F9 F10 F11=>Aw_tD hE [([0,1,2,3,4,9],(.alt 5 (.ref 3) (.alt 10 (.ref 4) .non))),([0,1,2,3,9,10],(.alt 4 (.ref 4) .non)),([0,1,3,4,9,10],(.alt 2 (.ref 4) (.alt 5 (.ref 5) .non))),([0,1,2,3,4,5,9],(.alt 6 (.ref 6) (.alt 10 (.ref 7) .non))),([0,1,2,3,4,9,10],(.alt 5 (.ref 7) .non)),([0,1,3,4,5,9,10],(.alt 2 (.ref 7) (.alt 6 (.ref 8) .non))),([0,1,2,3,4,5,6,9],(.alt 7 (.alt 8 (.alt 10 (.ref 11) .non) (.alt 10 (.ref 10) .non)) (.alt 10 (.ref 9) .non))),([0,1,2,3,4,5,9,10],(.alt 6 (.ref 9) .non)),([0,1,3,4,5,6,9,10],(.alt 2 (.ref 9) .non)),([0,1,2,3,4,5,6,9,10],(.alt 7 (.ref 10) .non)),([0,1,2,3,4,5,6,7,9,10],(.alt 8 (.ref 11) .non)),([0,1,2,3,4,5,6,7,8,9,10],(.alt 11 (.alt 12 (.alt 13 (.fst 14 .done) .non) .non) .non))] (.fst 0 (.fst 1 (.fst 3 (.fst 9 (.alt 2 (.alt 4 (.ref 0) (.alt 10 (.ref 1) .non)) (.alt 4 (.alt 2 (.ref 0) (.alt 5 (.alt 2 (.ref 3) (.alt 6 (.alt 2 (.ref 6) (.alt 10 (.ref 8) .non)) (.alt 10 (.ref 5) .non))) (.alt 10 (.ref 2) .non))) (.alt 10 (.alt 2 (.ref 1) (.alt 4 (.ref 2) .non)) .non))))))) [F0,F1,F2,F3,F4,F5,F6,F7,F8,F9,F10,F11] [0,4,6,7,9,10] [4,6,11])
     ·kernel_rfl
     intro K hK
     refine And.intro ?_ (And.intro ?_ (And.intro ?_ (And.intro ?_ (And.intro ?_ (And.intro ?_ (And.intro ?_ (And.intro ?_ (And.intro ?_ (And.intro ?_ (And.intro ?_ (And.intro ?_ (And.intro ?_ trivial))))))))))))
     iterate 12 (focus (simp only [go_sem,seval,hlg,hrows_one];repeat' (first | exact (fun _ _ r=>r) | exact LeE_eq (by simp only [go_sem,seval,hlg,hrows_one]) (by simp only [go_sem,seval,hlg,hrows_one]) | exact LeE_wk (by simp only [go_sem,seval,hlg,hrows_one]) (by simp only [go_sem,seval,hlg,hrows_one]) | refine And.intro (by first|omega|(and_intros<;>first|omega|exact crows_row _|exact rrows_row _|exact rows_row _|decide|(simp<;>omega))|fail) ?_ | refine And.intro ?_ ?_)))
     simp only [go_sem,seval,hlg,hrows_one]
     refine ⟨⟨hrows_row _,by omega⟩,?_⟩
     refine hK _ (hB8 (H0++[⟨lastI p,rf,rb⟩]) _ (by simp only [List.length_append,List.length_singleton];omega) (Le_ES (Le_wk (by omega) (by simp only [go_sem,seval]) (by simp only [go_sem,seval]))))
    ·refine Aw_skip (hB8 H0 _ (by omega) (Le_ES (Le_wk (by omega) (by simp only [go_sem,seval]) (by simp only [go_sem,seval]))))
   ·have d1:decide (0 < (p.length:Int))=false:=decide_eq_false hp0
    refine Aw_st hE [0,4,6,7,9,10,44] [4,6,11] fun K hK=>?_
    simp only [go_sem,seval,d1]
    refine hK _ (Aw_no rfl (Aw_skip (hB8 H0 _ (by omega) (Le_ES (Le_wk (by omega) (by simp only [go_sem,seval]) (by simp only [go_sem,seval]))))))
 by_cases hn6:(n:Int) < 6
 ·have d1:decide ((n:Int) < 6)=true:=decide_eq_true hn6
  refine Aw_st hE [0,4,6,7,8,25] [4,6,11] fun K hK=>?_
  simp only [go_sem,seval,d1]
  refine ⟨hp4,hK _ (Aw_cond rfl (fun hc5=>?_) (fun hc5=>?_))⟩
  ·refine Aw_skip (hB4 _ ?_)
   refine Aw_sq fun B6 hB6 hR6 hX6=>?_
   refine Aw_bk fun B7 hN7 hE7 hR7 hX7=>?_
   refine Aw_tx hE [0,4,6,7,8] [4,6,11] fun K hK=>?_
   simp only [go_sem,seval]
   repeat' (first | (refine And.intro (by first | omega | decide) ?_) | intro)
   rename_i v hv1 hv2
   refine hK _ (hN7 _ (hB6 _ ?_))
   refine Aw_tx hE [0,4,6,7,8] [4,6,11] fun K hK=>?_
   simp only [go_sem,seval]
   repeat refine sd0 ?_
   exact hK _ (hN3 (1 + v,n + 1) _ ⟨by simp only;omega,by simp only;omega⟩ (by simp only;omega) (Le_rn (by simp only;omega)))
  ·refine Aw_exit (hX4 _ _ (hX3 _ _ (hE2 _ (hexit _ (Le_wk (by omega) (by simp only [go_sem,seval]) (by simp only [go_sem,seval]))))))
 ·have d1:decide ((n:Int) < 6)=false:=decide_eq_false hn6
  refine Aw_st hE [0,4,6,7,8,25] [4,6,11] fun K hK=>?_
  simp only [go_sem,seval,d1]
  refine hK _ (Aw_no rfl ?_)
  refine Aw_exit (hX4 _ _ (hX3 _ _ (hE2 _ (hexit _ (Le_wk (by omega) (by simp only [go_sem,seval]) (by simp only [go_sem,seval]))))))
def cDSO:Con:={ pre:=codeArg,post:=fun _ r=>∃ (H:List Hd) (l:List Sl) (x:Rt) (to:Int),(sldP H l x∧1≤to∧to≤5)∧r = .tup [.sl none (hrows H),.sl none (srows l),x.av,iv to] }
theorem cDSO_own:cDSO.own=false:=rfl
theorem cDSO_draws:cDSO.draws=false:=rfl
theorem cDSO_cost:cDSO.cost=0:=rfl
attribute [go_sem] cDSO_own cDSO_draws cDSO_cost
theorem dso_pre (bs:List Nat) (h:∀ b ∈ bs,b < 256):cDSO.pre [.sl none (byteRows bs)]:=⟨bs,h,rfl⟩
theorem dso_post (args:List AV) (K:AV→Prop):(∀ r,cDSO.post args r→K r)=(∀ (H:List Hd) (l:List Sl) (x:Rt) (to:Int),(sldP H l x∧1≤to∧to≤5)→K (.tup [.sl none (hrows H),.sl none (srows l),x.av,iv to])):=by
 apply propext
 exact ⟨fun h a b c d hp=>h _ ⟨a,b,c,d,hp,rfl⟩,fun h r ⟨a,b,c,d,hp,e⟩=>e ▸ h a b c d hp⟩
attribute [go_sem] dso_post
theorem drawSealOk_ok:Fine Tryd.prog 4 cDSO:=by
 refine fine_draw (T:=TT) (C:=cDSO) Tryd.func4 rfl Tryd.ntmps4 (by rw [Tryd.results4]) rfl rfl tt rfl rfl (G:=[(9,cSld)]) (D:=[]) (gs_cons l92Sealed_ok gs_nil) ds_nil (l1:=[_]) (l2:=[_,_,_,_,_,_,_,_,_]) rfl rfl rfl rfl (by decide) open_calls ⟨_,Tryd.func10,rfl,rfl⟩ ?_ ?_
 ·rintro args r ⟨x,y,z,u,_,rfl⟩;rfl
 rintro args ⟨bs,hbs,rfl⟩
 refine ⟨by simp,bs,hbs,fun n E hE J hJ=>?_⟩
 refine Aw_tx hE [0,4] [4] fun K hK=>?_
 simp only [go_sem,seval]
 refine hK _ ?_
 simp only [thenA]
 simp only [go_sem,seval]
 refine hJ _ rfl rfl fun E hE Q hQ=>?_
 simp only [go_sem,seval]
 intro H l x to h
 refine Aw_ret (hQ _ ?_)
 simp only [go_sem,seval]
 exact ⟨H,l,x,to,h,rfl⟩
theorem lacksF_all {l:List Sl}:∀ {q:List Sl},(∀ s ∈ q,s ∈ l)→lacksF l q=0
 | [],_=>rfl
 | s::q,h=>by rw [lacksF,if_pos (h s (by simp)),lacksF_all fun x hx=>h x (by simp [hx])]
theorem mkS_y {f b:Int} {s:Sl}:∀ {p:List Int} {t:Int},s ∈ mkS f b t p→s.y ∈ p
 | h::p,t,hs=>by
  rw [mkS] at hs
  rcases List.mem_cons.1 hs with rfl | hs
  ·simp
  ·simp [mkS_y hs]
theorem lastI_cons (t:Int) {p:List Int} (h:0 < p.length):lastI (t::p)=lastI p:=by
 unfold lastI
 obtain ⟨x,p,rfl⟩:=List.exists_cons_of_length_pos h
 simp
theorem isH_c {x:Int} (h1:1≤x) (h2:x≤5):isH x=true:=by simp [isH,h1,h2]
structure Told (H:List Hd) (l:List Sl) (r:Rt) (to:Int):Prop where
 path:pathOk r.path=true
 h:isH to=true
 n:r.path.contains to=false
 next:∀ x:Int,isH x=true→(to::r.path).contains x=false→lacks H (l++[⟨to,x,r.f,r.b,to::r.path⟩]) ⟨r.f,r.b,to::r.path,0,[]⟩ x=0
 ok:sOkL l→r.path.length≤999→∀ x,sOkL (l++[⟨to,x,r.f,r.b,to::r.path⟩])
theorem told_of {H:List Hd} {l:List Sl} {r:Rt} {to:Int} (h:lacks H l r to=0):Told H l r to:=by
 unfold lacks at h
 split at h
 rotate_left
 ·omega
 split at h
 rotate_left
 ·omega
 rename_i hm hh
 simp only [makeOk,Bool.and_eq_true,Bool.not_eq_true'] at hm
 obtain ⟨⟨hok,hih⟩,hct⟩:=hm
 obtain ⟨hr,hp0,hpo,_⟩:=okR_parts hok
 have hall:=(lacksF_zero fun s hs=>by
  have:=isH_cases (pathOk_h hpo _ (mkS_y hs))
  omega).1 h
 have hq:pathOk (to::r.path)=true:=by
  simp only [pathOk,Bool.and_eq_true,List.all_eq_true,dte,List.nodup_cons] at hpo ⊢
  refine ⟨fun x hx=>?_,fun hin=>?_,hpo.2⟩
  ·rcases List.mem_cons.1 hx with rfl | hx
   ·exact hih
   ·exact hpo.1 x hx
  ·rw [List.contains_eq_mem] at hct
   simp [hin] at hct
 refine ⟨hpo,hih,hct,fun x hx hc=>?_,fun hs hl x s hm=>?_⟩
 ·have hok2:okR ⟨r.f,r.b,to::r.path,0,[]⟩=true:=okR_of hr (by simp) hq ⟨by simp,by simp⟩ rfl
  have hmk:makeOk ⟨r.f,r.b,to::r.path,0,[]⟩ x=true:=by
   unfold makeOk
   rw [hok2,hx,hc];rfl
  unfold lacks
  rw [hmk,if_pos rfl]
  simp only
  rw [lastI_cons to hp0,hh,if_pos rfl]
  refine lacksF_all fun s hs=>?_
  rw [mkS] at hs
  rcases List.mem_cons.1 hs with rfl | hs
  ·simp
  ·exact List.mem_append_left _ (hall s hs)
 ·rcases List.mem_append.1 hm with hm | hm
  ·exact hs s hm
  ·rw [List.mem_singleton.1 hm]
   exact ⟨by simp only [List.length_cons];omega,pathOk_h hq⟩
set_option maxHeartbeats 8000000 in
theorem fnSealTold_ok (pb:Addr):Fine Tryd.prog 3 (cLawP2 pb):=by
 refine fine_of (T:=TT) Tryd.func3 rfl Tryd.ntmps3 (by rw [Tryd.results3]) rfl rfl tt (gs_cons drawSealOk_ok gs_nil) (ds_cons (iSealOk_ok pb) (ds_cons sSealOk_ok (ds_cons (pathAdd_ok pb) (ds_cons lyIn_ok ds_nil) (wp_inh pb))) (wp_inh pb)) ?_
 rintro args ⟨bs,bs2,hbs,hbs2,rfl⟩
 refine ⟨by simp,fun k hk E hE Q hQ=>?_⟩
 refine Aw_st hE [0,1] [7,13] fun K hK=>?_
 simp only [go_sem,seval]
 refine hK _ ?_;clear hK K
 refine Aw_sq fun B1 hB1 hR1 hX1=>?_
 refine Aw_st hE [0,1,22] [7,13] fun K hK=>?_
 simp only [go_sem,seval]
 refine ⟨fun hg3=>?_,fun hg3=>?_⟩
 ·refine hK _ (Aw_yes rfl ?_)
  refine Aw_st hE [4] [7,13] fun K hK=>?_
  simp only [go_sem,seval]
  refine hK _ (Aw_ret (hR1 _ (hQ _ ?_)))
  simp only [go_sem,seval]
 refine hK _ (Aw_cond rfl (fun hc4=>?_) (fun hc4=>?_))
 ·refine Aw_st hE [4] [7,13] fun K hK=>?_
  simp only [go_sem,seval]
  refine hK _ (Aw_ret (hR1 _ (hQ _ ?_)))
  simp only [go_sem,seval]
 refine Aw_skip (hB1 _ ?_)
 refine Aw_st hE [1,5,6,7,8] [7,13] fun K hK=>?_
 simp only [go_sem,seval]
 refine ⟨dso_pre bs hbs,fun H l x to hx=>?_⟩
 obtain ⟨⟨hHl,⟨hll,hls⟩,hpl,hml⟩,hto1,hto2⟩:=hx
 obtain ⟨rf,rb,p,rk,m⟩:=x
 simp only at hpl hml
 have hpre:(H.length≤1000000∧l.length≤1000000∧sOkL l)∧p.length≤1000∧m.length≤1000:=⟨⟨by omega,by omega,hls⟩,by omega,by omega⟩
 refine hK _ ?_;clear hK K
 refine Aw_st hE [1,5,6,7,8,9] [7,13] fun K hK=>?_
 simp only [go_sem,seval]
 refine ⟨hpre,?_⟩
 refine hK _ ?_;clear hK K
 refine Aw_sq fun B3 hB3 hR3 hX3=>?_
 by_cases hz:lacks H l ⟨rf,rb,p,rk,m⟩ to=0
 rotate_left
 ·have d1:decide (lacks H l ⟨rf,rb,p,rk,m⟩ to=0)=false:=decide_eq_false hz
  refine Aw_st hE [1,5,6,7,8,9,45] [7,13] fun K hK=>?_
  simp only [go_sem,seval,d1]
  refine ⟨hpre,hK _ (Aw_yes rfl ?_)⟩
  refine Aw_st hE [4] [7,13] fun K hK=>?_
  simp only [go_sem,seval,d1]
  refine ⟨hpre,hK _ (Aw_ret (hR3 _ (hQ _ ?_)))⟩
  simp only [go_sem,seval]
 have d1:decide (lacks H l ⟨rf,rb,p,rk,m⟩ to=0)=true:=decide_eq_true hz
 obtain ⟨t1,t2,t3,t4,t5⟩:=told_of hz
 simp only at t1 t2 t3 t4 t5
 refine Aw_st hE [1,5,6,7,8,9,45] [7,13] fun K hK=>?_
 simp only [go_sem,seval,d1]
 refine ⟨hpre,hK _ (Aw_no rfl (Aw_skip (hB3 _ ?_)))⟩
 refine Aw_st hE [1,5,6,7,8,10,11] [7,13] fun K hK=>?_
 simp only [go_sem,seval]
 refine ⟨⟨⟨t1,t2,t3⟩,by omega⟩,?_⟩
 refine hK _ ?_;clear hK K
 refine Aw_st hE [5,6,7,8,10,11,12] [7,13] fun K hK=>?_
 simp only [go_sem,seval]
 have hn1:0≤((byteRows bs2).length:Int).tmod 5:=Int.tmod_nonneg _ (by omega)
 have hn2:((byteRows bs2).length:Int).tmod 5 < 5:=Int.tmod_lt_of_pos _ (by omega)
 generalize ((byteRows bs2).length:Int).tmod 5=v at hn1 hn2 ⊢
 refine ⟨⟨by omega,by omega⟩,?_⟩
 refine hK _ ?_;clear hK K
 refine Aw_sq fun B4 hB4 hR4 hX4=>?_
 cases hct:(1 + v == to || p.contains (1 + v)) with
 | true =>
  refine Aw_st hE [5,6,7,8,10,11,12,70] [7,13] fun K hK=>?_
  simp only [go_sem,seval,hct]
  refine ⟨by omega,hK _ (Aw_yes rfl ?_)⟩
  refine Aw_st hE [4] [7,13] fun K hK=>?_
  simp only [go_sem,seval]
  refine hK _ (Aw_ret (hR4 _ (hQ _ ?_)))
  simp only [go_sem,seval]
 | false =>
  refine Aw_st hE [5,6,7,8,10,11,12,70] [7,13] fun K hK=>?_
  simp only [go_sem,seval,hct]
  refine ⟨by omega,hK _ (Aw_no rfl (Aw_skip (hB4 _ ?_)))⟩
  refine Aw_st hE [5,6,7,8,10,12,13] [7,13] fun K hK=>?_
  simp only [go_sem,seval]
  refine hK _ ?_;clear hK K
  refine Aw_sS hE (.fst 1 (.fst 3 (.fst 4 (.fst 5 (.fst 7 (.alt 0 (.alt 2 (.alt 6 (.alt 8 (.alt 9 (.alt 10 (.fst 11 .done) .non) .non) .non) .non) (.alt 6 (.alt 2 (.alt 8 (.alt 9 (.alt 10 (.fst 11 .done) .non) .non) .non) (.alt 8 (.alt 2 (.alt 9 (.alt 10 (.fst 11 .done) .non) .non) (.alt 9 (.alt 2 (.alt 10 (.fst 11 .done) .non) .non) .non)) .non)) .non)) (.alt 6 (.alt 0 (.alt 2 (.alt 8 (.alt 9 (.alt 10 (.fst 11 .done) .non) .non) .non) (.alt 8 (.alt 2 (.alt 9 (.alt 10 (.fst 11 .done) .non) .non) (.alt 9 (.alt 2 (.alt 10 (.fst 11 .done) .non) .non) .non)) .non)) (.alt 8 (.alt 0 (.alt 2 (.alt 9 (.alt 10 (.fst 11 .done) .non) .non) (.alt 9 (.alt 2 (.alt 10 (.fst 11 .done) .non) .non) .non)) (.alt 9 (.alt 0 (.alt 2 (.alt 10 (.fst 11 .done) .non) .non) .non) .non)) .non)) .non))))))) [5,12,13,14] [7,13] (by kernel_rfl) fun K hK=>?_
  simp only [go_sem,seval,srows_one]
  have w1:∀ row:List DV,row ∈ srows l→row.length=5:=srows_row _
  have w2:∀ row:List DV,row ∈ srows (l++[⟨to,1 + v,rf,rb,to::p⟩])→row.length=5:=srows_row _
  have w3:l.length≤4294967296:=by omega
  have w4:l.length≤4294967295:=by omega
  simp only [eq_true w1,eq_true w2,eq_true w3,eq_true w4,true_and,and_true,and_self]
  have hsm:(l++[(⟨to,1 + v,rf,rb,to::p⟩:Sl)]).length≤1000000:=by simp;omega
  have hso:=t5 hls (by omega) (1 + v)
  have hnx:=t4 (1 + v) (isH_c (by omega) (by omega)) (by rw [List.contains_cons];exact hct)
  generalize l++[(⟨to,1 + v,rf,rb,to::p⟩:Sl)]=M at hsm hso hnx ⊢
  refine hK _ ?_;clear hK K
  have hi0:intsL ([]:List (List DV))=some []:=rfl
  refine Aw_st hE [4] [7,13] fun K hK=>?_
  simp only [go_sem,seval,hi0]
  refine ⟨⟨⟨by omega,hsm,hso⟩,by omega⟩,?_⟩
  rw [decide_eq_true hnx]
  refine hK _ (Aw_ret (hQ _ ?_))
  simp only [go_sem,seval]
end Go.Proofs.W
end
